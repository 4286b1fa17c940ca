import PyProof.Rows.All
import Wide.All
import OpenK.AllK
import Wide.FinOn
import PySem.Challenge.RW_treeticks_k02_whole_states
import PyProof.P3Statements
import PyProof.EqLayable
import HandS.List
import HandS.Text
import HandS.ReplaceList
import PyProof.StrBlock2
import KE.KeyNested
import HandS.ForMost
import HandS.ForExc
import HandS.Deep
import HandS.Walk
import HandS.IsInst
import HandS.Style
import HandS.TupAny
import HandS.Dict
import HandS.Iter
import KE.KDictKeyed
import KE.KDictDisplayH
import HandS.Comp
import HandS.Conv
import HandS.SortInts
import HandS.Strs
import HandS.SetFor
import HandS.SortOrd
import HandS.TupLe
import KE.KDictList
import KE.KDictWalk
import HandS.Set
import HandS.RaiseMore
import HandS.Zip
import KE.KDictZip
import HandS.HeadHook2
import HandS.ExcIs
import HandS.Defaults
import HandS.ExcBuiltin
import HandS.HeadEnd
import HandS.HeadHook4
import HandS.Replace
import HandS.ReplaceLit
import KE.KStateDown
import HandS.Base
import HandS.Call
import HandS.Ends
import HandS.More
import HandS.Words
import HandS.WordsExc
import HandS.Head0
import HandS.Head1
import HandS.Head2
import HandS.HeadHook1
set_option linter.all false
set_option Elab.async false
/-! TkSem: a small language, its values (PyData), its meaning. -/
namespace Tk
open PySem

abbrev D := PyData
/-- a slot: empty, a shared value, a list of the frame's own, the draws -/
inductive Slot where
  | no | va (d : D) | ow (d : D) | dr
abbrev Env := List Slot
abbrev DS := Option (List Int × Int)
/-- a result: a value, an exception (its class's name), nothing is known -/
inductive R (α : Type) where
  | ok (a : α) (δ : DS) | er (c : Str) (δ : DS) | bad
/-- a function's result -/
inductive O (α : Type) where
  | ok (a : α) | er (c : Str) | bad
def R.bind {α β : Type} (r : R α) (f : α → DS → R β) : R β := match r with
  | .ok a δ => f a δ
  | .er c δ => .er c δ
  | .bad => .bad
def R.ofOpt {α : Type} (δ : DS) : Option α → R α
  | some a => .ok a δ
  | none => .bad
def R.ofO {α : Type} (δ : DS) : O α → R α
  | .ok a => .ok a δ
  | .er c => .er c δ
  | .bad => .bad
@[simp] theorem R.bind_ok {α β : Type} (a : α) (δ : DS) (f : α → DS → R β) : (R.ok a δ).bind f = f a δ := rfl
@[simp] theorem R.bind_er {α β : Type} (c : Str) (δ : DS) (f : α → DS → R β) : (R.er c δ : R α).bind f = .er c δ := rfl
@[simp] theorem R.bind_bad {α β : Type} (f : α → DS → R β) : (R.bad : R α).bind f = .bad := rfl
@[simp] theorem R.ofOpt_some {α : Type} (δ : DS) (a : α) : R.ofOpt δ (some a) = .ok a δ := rfl
@[simp] theorem R.ofOpt_none {α : Type} (δ : DS) : R.ofOpt δ (none : Option α) = .bad := rfl
@[simp] theorem R.ofO_ok {α : Type} (δ : DS) (a : α) : R.ofO δ (O.ok a) = .ok a δ := rfl
@[simp] theorem R.ofO_er {α : Type} (δ : DS) (c : Str) : R.ofO δ (O.er c : O α) = .er c δ := rfl
@[simp] theorem R.ofO_bad {α : Type} (δ : DS) : R.ofO δ (O.bad : O α) = .bad := rfl

inductive BO where
  | add | sub | mul | fdiv | mod | pow
  deriving DecidableEq, Repr
inductive CO where
  | eq | ne | lt | le | gt | ge | isin | nin
  deriving DecidableEq, Repr
inductive TY where
  | int | bool | str | list | tuple
  deriving DecidableEq, Repr
inductive BU where
  | len | list | tuple | max1 | max2 | min1 | sum | all | any | lrange | sorted | sset | join (s : Str) | split | repl (y z : Str) | index | str | int
  deriving DecidableEq, Repr

mutual
/-- a target -/
inductive Tg where
  | n (i : Nat)
  | t (l : Tgs)
inductive Tgs where
  | nil
  | cons (a : Tg) (l : Tgs)
end
mutual
def Tg.ixs : Tg → List Nat
  | .n i => [i]
  | .t l => l.ixs
def Tgs.ixs : Tgs → List Nat
  | .nil => []
  | .cons a l => a.ixs ++ l.ixs
end
def Tgs.len : Tgs → Nat
  | .nil => 0
  | .cons _ l => l.len + 1
mutual
inductive E where
  | na
  | k (d : D)
  | v (i : Nat)
  | gl (x : Str) (d : D)
  | bin (o : BO) (a b : E)
  | neg (a : E)
  | no (a : E)
  | an (a b : E)
  | or (a b : E)
  | cm (o : CO) (a b : E)
  | ch (a b c : E)
  | isn (n : Bool) (a : E)
  | isb (n t : Bool) (a : E)
  | ite (c a b : E)
  | ix (a b : E)
  | sl (a lo hi : E)
  | rv (a : E)
  | ca (f : Str) (es : Es)
  | cf (f : Str) (es : Es)
  | c0 (f : Str)
  | dc (f : Str) (i : Nat) (es : Es)
  | bu (b : BU) (es : Es)
  | isi (t : TY) (a : E)
  | ls (es : Es)
  | tu (es : Es)
  | co (elt : E) (tg : Tg) (it : I) (c : E)
  | dn
  | d1 (k v : E)
  | dg (a k x : E)
inductive Es where
  | nil
  | cons (e : E) (es : Es)
/-- what is walked -/
inductive I where
  | sq (e : E)
  | r1 (e : E)
  | r2 (a b : E)
  | en (e : E)
  | zp (a b : E)
  | ez (a b : E)
end

inductive S where
  | sk
  | sq (a b : S)
  | set (i : Nat) (e : E)
  | sets (ts : List Nat) (es : Es)
  | unp (tg : Tg) (e : E)
  | app (i : Nat) (e : E)
  | sti (i : Nat) (k e : E)
  | aug (i : Nat) (e : E)
  | ex (e : E)
  | mc (f : Str) (es : Es)
  | ifs (c : E) (a b : S)
  | fors (tg : Tg) (it : I) (b : S)
  | wh (c : E) (b : S)
  | ret (e : E)
  | rai (c : Str)

/-! ### operations on values -/
def big : Nat := 1000000
/-! texts by their signs, so that the kernel can run them -/
def mkS (l : List Nat) : Str := ⟨l.toArray⟩
def catS (x y : Str) : Str := mkS (x.cps.toList ++ y.cps.toList)
def joinS (s : Str) (ys : List Str) : Str := mkS (TL.joinL s.cps.toList (ys.map fun y => y.cps.toList))
def splitS (a b : Str) : List Str := (TL.spl b.cps.toList 0 [] a.cps.toList).map mkS
def mulS (x : Str) (k : Nat) : Str := mkS (List.replicate k x.cps.toList).flatten
theorem mkS_tl (l : List Nat) : TL.tl (mkS l) = l := rfl
theorem catS_eq (x y : Str) : catS x y = x ++ y := TL.ext_tl (by rw [TL.tl_append]; rfl)
theorem joinS_eq (s : Str) (ys : List Str) : joinS s ys = Txt.join s ys := TL.ext_tl (by rw [TL.join_eq, TL.tl_join]; rfl)
theorem splitS_eq {a b : Str} (h : 0 < b.length) (hk : b.cps.all (· < 256) = true) : splitS a b = Txt.split a b := by
  refine TL.map_tl_inj ?_
  have hb : TL.tl b ≠ [] := fun z => by rw [TL.len_tl, z] at h; cases h
  rw [TL.split_spl a b hb (TL.kind_ok hk)]
  unfold splitS
  rw [List.map_map]
  have e : (TL.tl ∘ mkS) = id := rfl
  rw [e, List.map_id]
theorem foldl_cps (x : Array Nat) : ∀ (n : Nat) (a : Array Nat), ((List.replicate n x).foldl (· ++ ·) a).toList = a.toList ++ (List.replicate n x.toList).flatten
  | 0, a => by simp
  | n + 1, a => by
    rw [List.replicate_succ, List.foldl_cons, foldl_cps x n, List.replicate_succ, List.flatten_cons]
    simp
theorem mulS_eq {x : Str} {k : Int} (h : 0 ≤ k) : mulS x k.toNat = Txt.mul x k := by
  refine TL.ext_tl ?_
  unfold mulS Txt.mul
  rw [mkS_tl]
  split
  · have : k.toNat = 0 := by omega
    rw [this]; rfl
  · split
    · rename_i h2
      simp only [Bool.or_eq_true, beq_iff_eq] at h2
      rcases h2 with h2 | h2
      · rw [h2]; simp [TL.tl]
      · have : x.cps.toList = [] := by
          have := TL.len_tl x
          rw [h2] at this
          exact List.length_eq_zero_iff.mp this.symm
        rw [this]
        have e : ∀ n : Nat, (List.replicate n ([] : List Nat)).flatten = [] := fun n => by induction n <;> simp_all [List.replicate_succ]
        rw [e]
        exact this.symm
    · exact (foldl_cps x.cps k.toNat #[]).symm
def opD : BO → D → D → Option D
  | .add, .int i, .int j => some (.int (i + j))
  | .add, .str x, .str y => if x.length + y.length ≤ big then some (.str (catS x y)) else none
  | .add, .list xs, .list ys => if xs.length + ys.length ≤ big then some (.list (xs ++ ys)) else none
  | .add, .tuple xs, .tuple ys => if xs.length + ys.length ≤ big then some (.tuple (xs ++ ys)) else none
  | .sub, .int i, .int j => some (.int (i - j))
  | .mul, .int i, .int j => if -1000000000000 < i ∧ i < 1000000000000 then some (.int (i * j)) else none
  | .mul, .str x, .int k => if 0 ≤ k ∧ k ≤ 100000 ∧ x.length ≤ 100 then some (.str (mulS x k.toNat)) else none
  | .mul, .list xs, .int k => if k ≤ 1000 ∧ -1000 ≤ k ∧ xs.length ≤ 1000 then some (.list (List.replicate k.toNat xs).flatten) else none
  | .fdiv, .int i, .int j => if 0 < j ∧ j < 1073741824 then some (.int (i / j)) else none
  | .mod, .int i, .int j => if 0 < j then some (.int (i % j)) else none
  | .pow, .int i, .int j => if 0 ≤ j ∧ j ≤ 1000 ∧ i.natAbs < 18446744073709551616 then some (.int (i ^ j.toNat)) else none
  | _, _, _ => none
/-! keys of dicts: tuples of ints and such tuples -/
mutual
def keyOf : D → Option NestedKey
  | .int i => some (.num i)
  | .tuple ds => match keysOf ds with
    | some ks => some (.tup ks)
    | none => none
  | _ => none
def keysOf : List D → Option (List NestedKey)
  | [] => some []
  | d :: ds => match keyOf d, keysOf ds with
    | some k, some ks => some (k :: ks)
    | _, _ => none
end
def isKey : D → Bool
  | .tuple ds => match keyOf (.tuple ds) with
    | some k => decide (k.depth ≤ 8)
    | none => false
  | _ => false
def dget : List (D × D) → D → Option D
  | [], _ => none
  | p :: r, k => if PyData.eqv p.1 k then some p.2 else dget r k
def dput : List (D × D) → D → D → List (D × D)
  | [], k, v => [(k, v)]
  | p :: r, k, v => if PyData.eqv p.1 k then (p.1, v) :: r else p :: dput r k v
def flat : D → Bool
  | .none | .bool _ | .int _ | .str _ => true
  | _ => false
/-- a value that holds no object -/
def scalar : D → Bool := flat
def isL : D → Bool
  | .list _ => true
  | .dict _ => true
  | _ => false
open SeqAt in
def cmD : CO → D → D → Option Bool
  | .eq, a, b => if shaped a && shaped b then some (PyData.eqv a b) else none
  | .ne, a, b => if shaped a && shaped b then some (!PyData.eqv a b) else none
  | .lt, .int i, .int j => some (decide (i < j))
  | .le, .int i, .int j => some (decide (i ≤ j))
  | .gt, .int i, .int j => some (decide (j < i))
  | .ge, .int i, .int j => some (decide (j ≤ i))
  | .isin, d, .list ds => if shaped d && shaped (.list ds) then some (ds.any fun z => PyData.eqv z d) else none
  | .nin, d, .list ds => if shaped d && shaped (.list ds) then some (!ds.any fun z => PyData.eqv z d) else none
  | .isin, d, .tuple ds => if flat d && ds.all flat then some (ds.any fun z => PyData.eqv z d) else none
  | .nin, d, .tuple ds => if flat d && ds.all flat then some (!ds.any fun z => PyData.eqv z d) else none
  | .isin, d, .dict kvs => if isKey d then some (dget kvs d).isSome else none
  | .nin, d, .dict kvs => if isKey d then some (!(dget kvs d).isSome) else none
  | _, _, _ => none
def isTy : TY → D → Bool
  | .int, .int _ | .int, .bool _ | .bool, .bool _ | .str, .str _ | .list, .list _ | .tuple, .tuple _ => true
  | _, _ => false
def ixD : D → D → Option D
  | .list xs, .int i => L2.atI xs i
  | .tuple xs, .int i => L2.atI xs i
  | .dict kvs, k => if isKey k then dget kvs k else none
  | _, _ => none
def cut {α : Type} (xs : List α) (lo hi : Option Int) : List α := (xs.drop (HT.sIx xs.length 0 lo)).take (HT.sIx xs.length xs.length hi - HT.sIx xs.length 0 lo)
def slD (d : D) (lo hi : Option Int) : Option D := match d with
  | .list xs => some (.list (cut xs lo hi))
  | .str z => if z.length ≤ big then some (.str (L2.cutS z lo hi)) else none
  | .tuple xs => some (.tuple (cut xs lo hi))
  | _ => none
def asInt : D → Option Int
  | .int i => some i
  | _ => none
def asBool : D → Option Bool
  | .bool b => some b
  | _ => none
def asInts : List D → Option (List Int)
  | [] => some []
  | d :: ds => match d, asInts ds with
    | .int i, some is => some (i :: is)
    | _, _ => none
def asStrs : List D → Option (List Str)
  | [] => some []
  | d :: ds => match d, asStrs ds with
    | .str i, some is => some (i :: is)
    | _, _ => none
def asBools : List D → Option (List Bool)
  | [] => some []
  | d :: ds => match d, asBools ds with
    | .bool i, some is => some (i :: is)
    | _, _ => none
def maxI : Int → List Int → Int
  | m, [] => m
  | m, x :: xs => maxI (if m < x then x else m) xs
def minI : Int → List Int → Int
  | m, [] => m
  | m, x :: xs => minI (if x < m then x else m) xs
def insI (x : Int) : List Int → List Int
  | [] => [x]
  | y :: ys => if x ≤ y then x :: y :: ys else y :: insI x ys
/-- in order -/
def isort : List Int → List Int
  | [] => []
  | x :: xs => insI x (isort xs)
def insU (x : Int) : List Int → List Int
  | [] => [x]
  | y :: ys => if x < y then x :: y :: ys else if x = y then y :: ys else y :: insU x ys
/-- in order, each once -/
def usort : List Int → List Int
  | [] => []
  | x :: xs => insU x (usort xs)
/-- the order of tuples of ints -/
def lexL : List Int → List Int → Bool
  | _, [] => false
  | [], _ :: _ => true
  | x :: xs, y :: ys => if x = y then lexL xs ys else decide (x < y)
def insT (x : List Int) : List (List Int) → List (List Int)
  | [] => [x]
  | y :: ys => if lexL y x then y :: insT x ys else x :: y :: ys
/-- tuples in order -/
def tsort : List (List Int) → List (List Int)
  | [] => []
  | x :: xs => insT x (tsort xs)
def tupD (t : List Int) : D := .tuple (t.map .int)
def asTup1 : D → Option (List Int)
  | .tuple ds => asInts ds
  | _ => none
def asTups : List D → Option (List (List Int))
  | [] => some []
  | d :: ds => match asTup1 d, asTups ds with
    | some t, some ts => some (t :: ts)
    | _, _ => none
def rangeD (lo : Int) : Nat → List D
  | 0 => []
  | n + 1 => .int lo :: rangeD (lo + 1) n
def buD : BU → List D → Option D
  | .len, [.list xs] => some (.int xs.length)
  | .len, [.str z] => if z.length ≤ big then some (.int z.length) else none
  | .len, [.tuple xs] => some (.int xs.length)
  | .len, [.dict kvs] => some (.int kvs.length)
  | .list, [.list xs] => some (.list xs)
  | .list, [.tuple xs] => some (.list xs)
  | .tuple, [.list xs] => some (.tuple xs)
  | .tuple, [.tuple xs] => some (.tuple xs)
  | .max1, [.list xs] => match asInts xs with
    | some (i :: is) => some (.int (maxI i is))
    | _ => none
  | .min1, [.list xs] => match asInts xs with
    | some (i :: is) => some (.int (minI i is))
    | _ => none
  | .max2, [.int i, .int j] => some (.int (if j > i then j else i))
  | .sum, [.list xs] => (asInts xs).map fun is => .int is.sum
  | .all, [.list xs] => (asBools xs).map fun bs => .bool (bs.all id)
  | .any, [.list xs] => (asBools xs).map fun bs => .bool (bs.any id)
  | .lrange, [.int n] => if 0 ≤ n ∧ n ≤ 100000 then some (.list (rangeD 0 n.toNat)) else none
  | .sorted, [.list xs] => match asInts xs with
    | some is => some (.list ((isort is).map .int))
    | none => (asTups xs).map fun ts => .list ((tsort ts).map tupD)
  | .sorted, [.dict kvs] => (asTups (kvs.map (·.1))).map fun ts => .list ((tsort ts).map tupD)
  | .sorted, [.tuple xs] => (asInts xs).map fun is => .list ((isort is).map .int)
  | .sset, [.tuple xs] => match asInts xs with
    | some is => if is.length < 60 then some (.list ((usort is).map .int)) else none
    | none => none
  | .join s, [.list xs] => match asStrs xs with
    | some ys => if (ys.map (·.length)).sum + ys.length * s.length ≤ big then some (.str (joinS s ys)) else none
    | none => none
  | .split, [.str a, .str b] => if 0 < b.length ∧ a.length ≤ big ∧ b.cps.all (· < 256) = true then some (.list ((splitS a b).map .str)) else none
  | .repl y z, [.str a] => if 1 ≤ y.length ∧ a.length + (a.length + 1) * z.length ≤ 16777216 then some (.str (mkS (StrLaws.replL y.cps.toList z.cps.toList a.cps.toList))) else none
  | .index, [.list xs, d] => if SeqAt.shaped (.list xs) && SeqAt.shaped d then (xs.findIdx? fun z => PyData.eqv z d).map fun j => .int (j : Nat) else none
  | .str, [.int i] => if 0 ≤ i ∧ i < 10 then some (.str (mkS [48 + i.toNat])) else none
  | .str, [.str a] => some (.str a)
  | .int, [.str a] => match a.cps.toList with
    | [c] => if 48 ≤ c ∧ c ≤ 57 then some (.int ((c - 48 : Nat) : Int)) else none
    | _ => none
  | _, _ => none

/-! ### what may come out of an expression (slots whose own list may be a part of the value); new lists -/
mutual
def esc : E → List Nat
  | .v i => [i]
  | .ite _ a b => esc a ++ esc b
  | .ix a _ => esc1 a
  | .sl a _ _ => esc1 a
  | .rv a => esc1 a
  | .ca _ es => escs es
  | .cf _ es => escs es
  | .dc _ _ es => escs es
  | .bin .add a b => esc1 a ++ esc1 b
  | .bin .mul a _ => esc1 a
  | .bu .list es => escs1 es
  | .bu .tuple es => escs1 es
  | .ls es => escs es
  | .tu es => escs es
  | .co e tg _ _ => (esc e).filter fun i => !tg.ixs.contains i
  | .d1 k v => esc k ++ esc v
  | .dg a _ x => esc1 a ++ esc x
  | _ => []
/-- .. as a part of the value's items -/
def esc1 : E → List Nat
  | .v _ => []
  | .ite _ a b => esc1 a ++ esc1 b
  | .ix a _ => esc1 a
  | .sl a _ _ => esc1 a
  | .rv a => esc1 a
  | .ca _ es => escs es
  | .cf _ es => escs es
  | .dc _ _ es => escs es
  | .bin .add a b => esc1 a ++ esc1 b
  | .bin .mul a _ => esc1 a
  | .bu .list es => escs1 es
  | .bu .tuple es => escs1 es
  | .ls es => escs es
  | .tu es => escs es
  | .co e tg _ _ => (esc e).filter fun i => !tg.ixs.contains i
  | .d1 k v => esc k ++ esc v
  | .dg a _ x => esc1 a ++ esc x
  | _ => []
def escs : Es → List Nat
  | .nil => []
  | .cons e es => esc e ++ escs es
def escs1 : Es → List Nat
  | .nil => []
  | .cons e es => esc1 e ++ escs1 es
end
def escI : I → List Nat
  | .sq e => esc1 e
  | .r1 _ => []
  | .r2 _ _ => []
  | .en e => esc1 e
  | .zp a b => esc1 a ++ esc1 b
  | .ez a b => esc1 a ++ esc1 b
/-- .. of what is walked itself -/
def escR : I → List Nat
  | .sq e => esc e
  | .r1 _ => []
  | .r2 _ _ => []
  | .en e => esc e
  | .zp a b => esc a ++ esc b
  | .ez a b => esc a ++ esc b
def fresh : E → Bool
  | .cf _ _ => true
  | .ls _ => true
  | .co _ _ _ _ => true
  | .bin .add _ _ => true
  | .bin .mul _ _ => true
  | .sl _ _ _ => true
  | .rv _ => true
  | .bu .list _ => true
  | .bu .lrange _ => true
  | .bu .sorted _ => true
  | .bu .sset _ => true
  | .dn => true
  | .d1 _ _ => true
  | .ite _ a b => fresh a && fresh b
  | _ => false

/-! ### slots -/
def Slot.get : Slot → Option D
  | .va d => some d
  | .ow d => some d
  | _ => none
def Slot.isOw : Slot → Bool
  | .ow _ => true
  | _ => false
def look (ρ : Env) (i : Nat) : Option D := ρ[i]?.bind Slot.get
def owned (ρ : Env) (i : Nat) : Bool := match ρ[i]? with
  | some (.ow _) => true
  | _ => false
def ownL (ρ : Env) (i : Nat) : Bool := match ρ[i]? with
  | some (.ow (.list _)) => true
  | _ => false
/-- none of these slots holds a list of its own -/
def clear (ρ : Env) (is : List Nat) : Bool := is.all fun i => !owned ρ i
def frz (ρ : Env) : List Nat → Env
  | [] => ρ
  | i :: is => frz (match ρ[i]? with
    | some (.ow d) => ρ.set i (.va d)
    | _ => ρ) is
def wipeE (ρ : Env) : List Nat → Env
  | [] => ρ
  | i :: is => (wipeE ρ is).set i .no
mutual
def bindT (ρ : Env) : Tg → D → Option Env
  | .n i, d => if i < ρ.length then some (ρ.set i (.va d)) else none
  | .t l, .tuple ds => bindTs ρ l ds
  | .t _, _ => none
def bindTs (ρ : Env) : Tgs → List D → Option Env
  | .nil, [] => some ρ
  | .cons a l, d :: ds => match bindT ρ a d with
    | some ρ' => bindTs ρ' l ds
    | none => none
  | _, _ => none
end

/-! ### functions -/
inductive Fn where
  | pu (f : List D → O D)
  | dw (f : List D → List Int × Int → O (D × (List Int × Int)))
  | mu (j : Nat) (f : List D → O D)
abbrev Tab := Str → Option Fn

def compL (tg : Tg) (c : Env → DS → R Bool) (f : Env → DS → R D) (ρ : Env) : List D → DS → R (List D)
  | [], δ => .ok [] δ
  | d :: ds, δ => match bindT ρ tg d with
    | none => .bad
    | some ρ1 => (c ρ1 δ).bind fun b δ1 => if b then (f ρ1 δ1).bind fun y δ2 => (compL tg c f ρ ds δ2).bind fun ys δ3 => .ok (y :: ys) δ3 else compL tg c f ρ ds δ1
def noEr {α : Type} : R α → R α
  | .er _ _ => .bad
  | r => r
def pairs : List D → List D → List D
  | x :: xs, y :: ys => .tuple [x, y] :: pairs xs ys
  | _, _ => []
def enumD : Nat → List D → List D
  | _, [] => []
  | n, x :: xs => .tuple [.int n, x] :: enumD (n + 1) xs
def itemsD : D → Option (List D)
  | .dict kvs => some (kvs.map (·.1))
  | .list xs => some xs
  | .tuple xs => some xs
  | _ => none

def isNa : E → Bool
  | .na => true
  | _ => false
mutual
def ev (F : Tab) : E → Env → DS → R D
  | .na, _, _ => .bad
  | .k d, _, δ => .ok d δ
  | .v i, ρ, δ => R.ofOpt δ (look ρ i)
  | .gl _ d, _, δ => .ok d δ
  | .bin o a b, ρ, δ => (ev F a ρ δ).bind fun x δ => (ev F b ρ δ).bind fun y δ => R.ofOpt δ (opD o x y)
  | .neg a, ρ, δ => (ev F a ρ δ).bind fun x δ => R.ofOpt δ ((asInt x).map fun i => .int (-i))
  | .no a, ρ, δ => (ev F a ρ δ).bind fun x δ => R.ofOpt δ ((asBool x).map fun b => .bool (!b))
  | .an a b, ρ, δ => (ev F a ρ δ).bind fun x δ => match x with
    | .bool true => (ev F b ρ δ).bind fun y δ => R.ofOpt δ ((asBool y).map .bool)
    | .bool false => .ok (.bool false) δ
    | _ => .bad
  | .or a b, ρ, δ => (ev F a ρ δ).bind fun x δ => match x with
    | .bool false => (ev F b ρ δ).bind fun y δ => R.ofOpt δ ((asBool y).map .bool)
    | .bool true => .ok (.bool true) δ
    | _ => .bad
  | .cm o a b, ρ, δ => (ev F a ρ δ).bind fun x δ => (ev F b ρ δ).bind fun y δ => R.ofOpt δ ((cmD o x y).map .bool)
  | .ch a b c, ρ, δ => (ev F a ρ δ).bind fun x δ => (ev F b ρ δ).bind fun y δ => match x, y with
    | .int i, .int j => if i ≤ j then (ev F c ρ δ).bind fun z δ => R.ofOpt δ ((asInt z).map fun l => .bool (decide (j ≤ l))) else .ok (.bool false) δ
    | _, _ => .bad
  | .isn n a, ρ, δ => (ev F a ρ δ).bind fun x δ => .ok (.bool (match x with
    | .none => !n
    | _ => n)) δ
  | .isb n t a, ρ, δ => (ev F a ρ δ).bind fun x δ => R.ofOpt δ ((asBool x).map fun b => .bool (if n then !decide (b = t) else decide (b = t)))
  | .ite c a b, ρ, δ => (ev F c ρ δ).bind fun x δ => match x with
    | .bool true => ev F a ρ δ
    | .bool false => ev F b ρ δ
    | _ => .bad
  | .ix a b, ρ, δ => (ev F a ρ δ).bind fun x δ => (ev F b ρ δ).bind fun y δ => R.ofOpt δ (ixD x y)
  | .sl a lo hi, ρ, δ => (ev F a ρ δ).bind fun x δ => (if isNa lo then .ok none δ else (ev F lo ρ δ).bind fun y δ => R.ofOpt δ ((asInt y).map some)).bind fun l δ => (if isNa hi then .ok none δ else (ev F hi ρ δ).bind fun y δ => R.ofOpt δ ((asInt y).map some)).bind fun h δ => R.ofOpt δ (slD x l h)
  | .rv a, ρ, δ => (ev F a ρ δ).bind fun x δ => match x with
    | .list xs => .ok (.list xs.reverse) δ
    | _ => .bad
  | .ca f es, ρ, δ => (evs F es ρ δ).bind fun ds δ => match F f with
    | some (.pu g) => R.ofO δ (g ds)
    | _ => .bad
  | .cf f es, ρ, δ => (evs F es ρ δ).bind fun ds δ => match F f with
    | some (.pu g) => R.ofO δ (g ds)
    | _ => .bad
  | .c0 f, _, δ => match F f with
    | some (.pu g) => noEr (R.ofO δ (g []))
    | _ => .bad
  | .dc f i es, ρ, δ => match ρ[i]? with
    | some .dr => (evs F es ρ δ).bind fun ds δ => match F f, δ with
      | some (.dw g), some q => match g ds q with
        | .ok (d, q') => .ok d (some q')
        | _ => .bad
      | _, _ => .bad
    | _ => .bad
  | .bu b es, ρ, δ => (evs F es ρ δ).bind fun ds δ => R.ofOpt δ (buD b ds)
  | .isi t a, ρ, δ => (ev F a ρ δ).bind fun x δ => .ok (.bool (isTy t x)) δ
  | .ls es, ρ, δ => (evs F es ρ δ).bind fun ds δ => .ok (.list ds) δ
  | .tu es, ρ, δ => (evs F es ρ δ).bind fun ds δ => .ok (.tuple ds) δ
  | .co e tg it c, ρ, δ => if clear ρ (escI it) && clear ρ tg.ixs then (evI F it ρ δ).bind fun xs δ =>
      (noEr (compL tg (fun ρ δ => (ev F c ρ δ).bind fun x δ => R.ofOpt δ (asBool x)) (fun ρ δ => ev F e ρ δ) (wipeE ρ tg.ixs) xs δ)).bind fun ys δ => .ok (.list ys) δ else .bad
  | .dn, _, δ => .ok (.dict []) δ
  | .d1 k v, ρ, δ => (ev F k ρ δ).bind fun x δ => (ev F v ρ δ).bind fun y δ => R.ofOpt δ (if isKey x then some (.dict [(x, y)]) else none)
  | .dg a k x, ρ, δ => (ev F a ρ δ).bind fun z δ => match z with
    | .dict kvs => (ev F k ρ δ).bind fun y δ => (ev F x ρ δ).bind fun w δ => R.ofOpt δ (if isKey y then some ((dget kvs y).getD w) else none)
    | _ => .bad
def evs (F : Tab) : Es → Env → DS → R (List D)
  | .nil, _, δ => .ok [] δ
  | .cons e es, ρ, δ => (ev F e ρ δ).bind fun x δ => (evs F es ρ δ).bind fun xs δ => .ok (x :: xs) δ
def evI (F : Tab) : I → Env → DS → R (List D)
  | .sq e, ρ, δ => (ev F e ρ δ).bind fun x δ => R.ofOpt δ (itemsD x)
  | .r1 e, ρ, δ => (ev F e ρ δ).bind fun x δ => R.ofOpt δ (match x with
    | .int n => if n ≤ 100000 ∧ -100000 ≤ n then some (rangeD 0 n.toNat) else none
    | _ => none)
  | .r2 a b, ρ, δ => (ev F a ρ δ).bind fun x δ => (ev F b ρ δ).bind fun y δ => R.ofOpt δ (match x, y with
    | .int m, .int n => if -100000 ≤ m ∧ m ≤ 100000 ∧ -100000 ≤ n ∧ n ≤ 100000 then some (rangeD m (n - m).toNat) else none
    | _, _ => none)
  | .en e, ρ, δ => (ev F e ρ δ).bind fun x δ => R.ofOpt δ (match x with
    | .list xs => some (enumD 0 xs)
    | _ => none)
  | .zp a b, ρ, δ => (ev F a ρ δ).bind fun x δ => (ev F b ρ δ).bind fun y δ => R.ofOpt δ (match x, y with
    | .list xs, .list ys => some (pairs xs ys)
    | _, _ => none)
  | .ez a b, ρ, δ => (ev F a ρ δ).bind fun x δ => (ev F b ρ δ).bind fun y δ => R.ofOpt δ (match x, y with
    | .list xs, .list ys => some (enumD 0 (pairs xs ys))
    | _, _ => none)
end

/-! ### statements -/
inductive Fl where
  | nx (ρ : Env)
  | rt (d : D)
def evB (F : Tab) (c : E) (ρ : Env) (δ : DS) : R Bool := (ev F c ρ δ).bind fun x δ => R.ofOpt δ (asBool x)
def loopW (c : Env → DS → R Bool) (b : Env → DS → R Fl) : Nat → Env → DS → R Fl
  | 0, _, _ => .bad
  | n + 1, ρ, δ => (c ρ δ).bind fun t δ => if t then (b ρ δ).bind fun f δ => match f with
      | .nx ρ' => loopW c b n ρ' δ
      | .rt d => .ok (.rt d) δ
    else .ok (.nx ρ) δ
def loopF (tg : Tg) (b : Env → DS → R Fl) : List D → Env → DS → R Fl
  | [], ρ, δ => .ok (.nx ρ) δ
  | x :: xs, ρ, δ => match bindT ρ tg x with
    | none => .bad
    | some ρ1 => (b ρ1 δ).bind fun f δ => match f with
      | .nx ρ' => loopF tg b xs ρ' δ
      | .rt d => .ok (.rt d) δ
/-- behind the storing of d, the value of e -/
def keepE (ρ : Env) (e : E) (d : D) : Env := if scalar d then ρ else frz ρ (esc e)
mutual
/-- no list, no dict in it -/
def solid : D → Bool
  | .list _ => false
  | .dict _ => false
  | .tuple ds => solids ds
  | _ => true
def solids : List D → Bool
  | [] => true
  | d :: ds => solid d && solids ds
end
/-- behind the storing of d into a thing of the frame's own -/
def keepS (ρ : Env) (e : E) (d : D) : Env := if solid d then ρ else frz ρ (esc e)
def store (ρ : Env) (i : Nat) (e : E) (d : D) : Option Env :=
  if i < ρ.length then some ((keepE ρ e d).set i (if fresh e && isL d then .ow d else .va d)) else none
def stores (ρ : Env) : List Nat → Es → List D → Option Env
  | [], .nil, [] => some ρ
  | i :: is, .cons e es, d :: ds => if i < ρ.length then stores (ρ.set i (if fresh e && isL d then .ow d else .va d)) is es ds else none
  | _, _, _ => none
/-- the slot of an expression that is a name -/
def nameOf : Es → Nat → Option Nat
  | .cons (.v i) _, 0 => some i
  | .cons _ es, n + 1 => nameOf es n
  | _, _ => none
def dropAt : Es → Nat → Es
  | .nil, _ => .nil
  | .cons _ es, 0 => es
  | .cons e es, n + 1 => .cons e (dropAt es n)
def exec (F : Tab) : S → Env → DS → R Fl
  | .sk, ρ, δ => .ok (.nx ρ) δ
  | .sq a b, ρ, δ => (exec F a ρ δ).bind fun f δ => match f with
    | .nx ρ' => exec F b ρ' δ
    | .rt d => .ok (.rt d) δ
  | .set i e, ρ, δ => (ev F e ρ δ).bind fun d δ => R.ofOpt δ ((store ρ i e d).map .nx)
  | .sets ts es, ρ, δ => (evs F es (frz ρ (escs es)) δ).bind fun ds δ => R.ofOpt δ ((stores (frz ρ (escs es)) ts es ds).map .nx)
  | .unp tg e, ρ, δ => (ev F e ρ δ).bind fun d δ => R.ofOpt δ ((bindT (frz ρ (esc e)) tg d).map .nx)
  | .app i e, ρ, δ => if ownL ρ i then (ev F e ρ δ).bind fun d δ =>
      R.ofOpt δ (match (keepE ρ e d)[i]? with
        | some (.ow (.list ds)) => if ds.length < big then some (.nx ((keepE ρ e d).set i (.ow (.list (ds ++ [d]))))) else none
        | _ => none) else .bad
  | .sti i k e, ρ, δ => (ev F e ρ δ).bind fun d δ => if owned ρ i then (ev F k ρ δ).bind fun j δ =>
      R.ofOpt δ (match (keepS ρ e d)[i]?, j with
        | some (.ow (.list ds)), .int j => (L2.ixN ds.length j).map fun j => .nx ((keepS ρ e d).set i (.ow (.list (ds.set j d))))
        | some (.ow (.dict kvs)), j => if isKey j && decide (kvs.length < big) then some (.nx ((keepS ρ e d).set i (.ow (.dict (dput kvs j d))))) else none
        | _, _ => none) else .bad
  | .aug i e, ρ, δ => match look ρ i with
    | none => .bad
    | some _ => (ev F e ρ δ).bind fun d δ => R.ofOpt δ (match ρ[i]?, d with
      | some (.va (.int a)), .int b => some (.nx (ρ.set i (.va (.int (a + b)))))
      | some (.ow (.list xs)), .list ys => if clear ρ (esc e) && decide (xs.length + ys.length ≤ big) then some (.nx (ρ.set i (.ow (.list (xs ++ ys))))) else none
      | _, _ => none)
  | .ex e, ρ, δ => (ev F e ρ δ).bind fun _ δ => .ok (.nx ρ) δ
  | .mc f es, ρ, δ => match F f with
    | some (.mu j g) => match nameOf es j with
      | some i => match ρ[i]? with
        | some (.ow (.list _)) => if clear ρ (escs (dropAt es j)) then (evs F es ρ δ).bind fun ds δ => match g ds with
          | .ok (.list xs) => .ok (.nx (ρ.set i (.ow (.list xs)))) δ
          | _ => .bad else .bad
        | _ => .bad
      | none => .bad
    | _ => .bad
  | .ifs c a b, ρ, δ => (evB F c ρ δ).bind fun t δ => if t then exec F a ρ δ else exec F b ρ δ
  | .fors tg it b, ρ, δ => if clear ρ (escI it) then (evI F it ρ δ).bind fun xs δ => loopF tg (fun ρ δ => exec F b ρ δ) xs (frz ρ (escR it)) δ else .bad
  | .wh c b, ρ, δ => loopW (evB F c) (fun ρ δ => exec F b ρ δ) 100000 ρ δ
  | .ret e, ρ, δ => (ev F e ρ δ).bind fun d δ => .ok (.rt d) δ
  | .rai c, _, δ => .er c δ

/-- the slots that a statement stores -/
def asg : S → List Nat
  | .sk => []
  | .sq a b => asg a ++ asg b
  | .set i _ => [i]
  | .sets ts _ => ts
  | .unp tg _ => tg.ixs
  | .app _ _ => []
  | .sti _ _ _ => []
  | .aug i _ => [i]
  | .ex _ => []
  | .mc _ _ => []
  | .ifs _ a b => asg a ++ asg b
  | .fors tg _ b => tg.ixs ++ asg b
  | .wh _ b => asg b
  | .ret _ => []
  | .rai _ => []
/-! ### defs -/
def enter (n : Nat) (ds : List D) : Env := ds.map .va ++ List.replicate (n - ds.length) .no
def outP : R Fl → O D
  | .ok (.rt d) _ => .ok d
  | .ok (.nx _) _ => .ok .none
  | .er c _ => .er c
  | .bad => .bad
/-- m arguments, n slots, the body -/
def runP (F : Tab) (m n : Nat) (b : S) (ds : List D) : O D := if ds.length = m then outP (exec F b (enter n ds) none) else .bad
def outD : R Fl → O (D × (List Int × Int))
  | .ok (.rt d) (some q) => .ok (d, q)
  | .ok (.nx _) (some q) => .ok (.none, q)
  | _ => .bad
/-- the draws stand in slot 0 (m arguments besides) -/
def runD (F : Tab) (m n : Nat) (b : S) (ds : List D) (q : List Int × Int) : O (D × (List Int × Int)) := if ds.length = m then outD (exec F b (.dr :: enter (n - 1) ds) (some q)) else .bad
def outM (j : Nat) : R Fl → O D
  | .ok (.nx ρ) _ => match ρ[j]? with
    | some (.ow d) => .ok d
    | _ => .bad
  | _ => .bad
/-- slot j is written -/
def runM (F : Tab) (m n : Nat) (b : S) (j : Nat) (ds : List D) : O D := if ds.length = m && !(asg b).contains j then match ds[j]? with
  | some (.list xs) => outM j (exec F b ((enter n ds).set j (.ow (.list xs))) none)
  | _ => .bad else .bad
end Tk
set_option linter.all false
set_option Elab.async false
namespace Tk
open PySem
/-- the draws: the next number below a limit -/
def M_law_draw : List D → List Int × Int → O (D × (List Int × Int))
  | [.int limit], (ns, n) =>
    if 0 < limit ∧ limit < 1073741824 ∧ ns ≠ [] then
      if 1000000000000000000 ≤ ns.getD ((n + 1) % (ns.length : Int)).toNat 0 then
        .ok (.int (ns.getD ((n + 1) % (ns.length : Int)).toNat 0 % limit), (ns.set ((n + 1) % (ns.length : Int)).toNat (ns.getD ((n + 1) % (ns.length : Int)).toNat 0 / limit), n + 1))
      else .ok (.int ((((((ns.getD ((n + 1) % (ns.length : Int)).toNat 0 + 104729 * (n + 1)) % 4294967291) ^ 5 % 4294967279) / 64 * 69621 + (((ns.getD ((n + 1) % (ns.length : Int)).toNat 0 + 104729 * (n + 1)) % 4294967291) ^ 5 % 4294967279)) % 4294967231) / 8 % limit), (ns, n + 1))
    else .bad
  | _, _ => .bad
/-- what is known of a draw -/
theorem draw_ok {limit : Int} {ns : List Int} {n : Int} (h1 : 0 < limit) (h2 : limit < 1073741824) (h3 : ns ≠ []) : ∃ r ns' n', M_law_draw [.int limit] (ns, n) = .ok (.int r, (ns', n')) ∧ 0 ≤ r ∧ r < limit ∧ ns' ≠ [] := by
  simp only [M_law_draw]
  rw [if_pos ⟨h1, h2, h3⟩]
  split
  · refine ⟨_, _, _, rfl, Int.emod_nonneg _ (by omega), Int.emod_lt_of_pos _ h1, fun z => h3 ?_⟩
    have := congrArg List.length z
    rw [List.length_set] at this
    exact List.length_eq_zero_iff.mp this
  · exact ⟨_, _, _, rfl, Int.emod_nonneg _ (by omega), Int.emod_lt_of_pos _ h1, h3⟩
end Tk
set_option linter.all false
set_option Elab.async false
set_option maxRecDepth 100000
namespace Tk
open PySem
def A_is_int : S := (.sq (.ret (.an (.isi .int (.v 0)) (.an (.no (.isi .bool (.v 0))) (.ch (.v 1) (.v 0) (.v 2)))))
  .sk)
def T_is_int : Tab := fun x => none
def M_is_int : List D → O D := runP T_is_int 3 3 A_is_int
def A_check_number : S := (.sq (.ifs (.no (.ca "is_int" (.cons (.v 0) (.cons (.v 1) (.cons (.v 2) .nil))))) (.sq (.rai "BadNumber")
  .sk) .sk)
  .sk)
def T_check_number : Tab := fun x => if x = "is_int" then some (.pu M_is_int) else none
def M_check_number : List D → O D := runP T_check_number 3 3 A_check_number
def A_check_sight : S := (.sq (.ex (.ca "check_number" (.cons (.v 0) (.cons (.k (.int 0)) (.cons (.k (.int 1)) .nil)))))
  .sk)
def T_check_sight : Tab := fun x => if x = "check_number" then some (.pu M_check_number) else none
def M_check_sight : List D → O D := runP T_check_sight 1 1 A_check_sight
def A_is_tree : S := (.sq (.ifs (.or (.no (.isi .list (.v 0))) (.no (.ch (.k (.int 2)) (.bu .len (.cons (.v 0) .nil)) (.gl "MOST_BOXES" (.int 5))))) (.sq (.ret (.k (.bool false)))
  .sk) .sk)
  (.sq (.ifs (.no (.bu .all (.cons (.co (.ca "is_int" (.cons (.v 1) (.cons (.k (.int 0)) (.cons (.gl "MOST_BOXES" (.int 5)) .nil)))) (.n 1) (.sq (.v 0)) (.k (.bool true))) .nil))) (.sq (.ret (.k (.bool false)))
  .sk) .sk)
  (.sq (.set 2 (.co (.cm .le (.v 3) (.bin .add (.v 1) (.k (.int 1)))) (.t (.cons (.n 1) (.cons (.n 3) .nil))) (.zp (.v 0) (.sl (.v 0) (.k (.int 1)) .na)) (.k (.bool true))))
  (.sq (.ret (.an (.cm .eq (.ix (.v 0) (.k (.int 0))) (.k (.int 0))) (.an (.bu .all (.cons (.v 2) .nil)) (.cm .gt (.bu .max1 (.cons (.v 0) .nil)) (.k (.int 0))))))
  .sk))))
def T_is_tree : Tab := fun x => if x = "is_int" then some (.pu M_is_int) else none
def M_is_tree : List D → O D := runP T_is_tree 1 4 A_is_tree
def A_check_tree : S := (.sq (.ifs (.no (.ca "is_tree" (.cons (.v 0) .nil))) (.sq (.rai "BadNumber")
  .sk) .sk)
  .sk)
def T_check_tree : Tab := fun x => if x = "is_tree" then some (.pu M_is_tree) else none
def M_check_tree : List D → O D := runP T_check_tree 1 1 A_check_tree
def A_all_trees : S := (.sq (.sets [0, 1] (.cons (.ls .nil) (.cons (.ls (.cons (.ls (.cons (.k (.int 0)) .nil)) .nil)) .nil)))
  (.sq (.fors (.n 2) (.r2 (.k (.int 2)) (.bin .add (.gl "MOST_SMALL" (.int 4)) (.k (.int 1)))) (.sq (.set 3 (.ls .nil))
  (.sq (.fors (.n 4) (.sq (.v 1)) (.sq (.aug 3 (.co (.bin .add (.v 4) (.ls (.cons (.v 5) .nil))) (.n 5) (.r1 (.bin .add (.ix (.v 4) (.neg (.k (.int 1)))) (.k (.int 2)))) (.k (.bool true))))
  .sk))
  (.sq (.aug 0 (.co (.v 4) (.n 4) (.sq (.v 3)) (.cm .gt (.bu .max1 (.cons (.v 4) .nil)) (.k (.int 0)))))
  (.sq (.set 1 (.v 3))
  .sk)))))
  (.sq (.ret (.v 0))
  .sk)))
def T_all_trees : Tab := fun x => none
def M_all_trees : List D → O D := runP T_all_trees 0 6 A_all_trees
def A_parent_of : S := (.sq (.set 2 (.co (.v 3) (.n 3) (.r1 (.v 1)) (.cm .eq (.ix (.v 0) (.v 3)) (.bin .sub (.ix (.v 0) (.v 1)) (.k (.int 1))))))
  (.sq (.ret (.ite (.cm .ne (.v 2) (.ls .nil)) (.ix (.v 2) (.neg (.k (.int 1)))) (.neg (.k (.int 1)))))
  .sk))
def T_parent_of : Tab := fun x => none
def M_parent_of : List D → O D := runP T_parent_of 2 4 A_parent_of
def A_children_of : S := (.sq (.ret (.co (.v 2) (.n 2) (.r1 (.bu .len (.cons (.v 0) .nil))) (.cm .eq (.ca "parent_of" (.cons (.v 0) (.cons (.v 2) .nil))) (.v 1))))
  .sk)
def T_children_of : Tab := fun x => if x = "parent_of" then some (.pu M_parent_of) else none
def M_children_of : List D → O D := runP T_children_of 2 3 A_children_of
def A_leaves_of : S := (.sq (.ret (.co (.v 1) (.n 1) (.r1 (.bu .len (.cons (.v 0) .nil))) (.or (.cm .eq (.bin .add (.v 1) (.k (.int 1))) (.bu .len (.cons (.v 0) .nil))) (.cm .le (.ix (.v 0) (.bin .add (.v 1) (.k (.int 1)))) (.ix (.v 0) (.v 1))))))
  .sk)
def T_leaves_of : Tab := fun x => none
def M_leaves_of : List D → O D := runP T_leaves_of 1 2 A_leaves_of
def A_below : S := (.sq (.set 2 (.ls .nil))
  (.sq (.fors (.n 3) (.r2 (.bin .add (.v 1) (.k (.int 1))) (.bu .len (.cons (.v 0) .nil))) (.sq (.ifs (.cm .le (.ix (.v 0) (.v 3)) (.ix (.v 0) (.v 1))) (.sq (.ret (.v 2))
  .sk) .sk)
  (.sq (.app 2 (.v 3))
  .sk)))
  (.sq (.ret (.v 2))
  .sk)))
def T_below : Tab := fun x => none
def M_below : List D → O D := runP T_below 2 4 A_below
def A_deeds_of : S := (.sq (.ret (.bin .add (.co (.tu (.cons (.k (.str "click")) (.cons (.v 1) .nil))) (.n 1) (.r1 (.bu .len (.cons (.v 0) .nil))) (.k (.bool true))) (.co (.tu (.cons (.v 2) .nil)) (.n 2) (.sq (.sl (.gl "KINDS" (.tuple [(.str "click"), (.str "all"), (.str "none"), (.str "turn")])) (.k (.int 1)) .na)) (.k (.bool true)))))
  .sk)
def T_deeds_of : Tab := fun x => none
def M_deeds_of : List D → O D := runP T_deeds_of 1 3 A_deeds_of
def A_is_one : S := (.sq (.ifs (.or (.no (.isi .tuple (.v 1))) (.or (.cm .nin (.bu .len (.cons (.v 1) .nil)) (.tu (.cons (.k (.int 1)) (.cons (.k (.int 2)) .nil)))) (.no (.isi .str (.ix (.v 1) (.k (.int 0))))))) (.sq (.ret (.k (.bool false)))
  .sk) .sk)
  (.sq (.ifs (.or (.cm .nin (.ix (.v 1) (.k (.int 0))) (.gl "KINDS" (.tuple [(.str "click"), (.str "all"), (.str "none"), (.str "turn")]))) (.cm .ne (.cm .eq (.ix (.v 1) (.k (.int 0))) (.k (.str "click"))) (.cm .eq (.bu .len (.cons (.v 1) .nil)) (.k (.int 2))))) (.sq (.ret (.k (.bool false)))
  .sk) .sk)
  (.sq (.ret (.or (.cm .eq (.bu .len (.cons (.v 1) .nil)) (.k (.int 1))) (.ca "is_int" (.cons (.ix (.v 1) (.k (.int 1))) (.cons (.k (.int 0)) (.cons (.bin .sub (.bu .len (.cons (.v 0) .nil)) (.k (.int 1))) .nil))))))
  .sk)))
def T_is_one : Tab := fun x => if x = "is_int" then some (.pu M_is_int) else none
def M_is_one : List D → O D := runP T_is_one 2 2 A_is_one
def A_are_deeds : S := (.sq (.ret (.an (.isi .list (.v 1)) (.an (.cm .le (.bu .len (.cons (.v 1) .nil)) (.gl "MOST_ROW" (.int 40))) (.bu .all (.cons (.co (.ca "is_one" (.cons (.v 0) (.cons (.v 2) .nil))) (.n 2) (.sq (.v 1)) (.k (.bool true))) .nil)))))
  .sk)
def T_are_deeds : Tab := fun x => if x = "is_one" then some (.pu M_is_one) else none
def M_are_deeds : List D → O D := runP T_are_deeds 2 3 A_are_deeds
def A_is_row : S := (.sq (.ex (.ca "check_tree" (.cons (.v 0) .nil)))
  (.sq (.ret (.ca "are_deeds" (.cons (.v 0) (.cons (.v 1) .nil))))
  .sk))
def T_is_row : Tab := fun x => if x = "check_tree" then some (.pu M_check_tree) else if x = "are_deeds" then some (.pu M_are_deeds) else none
def M_is_row : List D → O D := runP T_is_row 2 2 A_is_row
def A_check_row : S := (.sq (.ifs (.no (.ca "are_deeds" (.cons (.v 0) (.cons (.v 1) .nil)))) (.sq (.rai "BadDeeds")
  .sk) .sk)
  .sk)
def T_check_row : Tab := fun x => if x = "are_deeds" then some (.pu M_are_deeds) else none
def M_check_row : List D → O D := runP T_check_row 2 2 A_check_row
def A_all_deeds : S := (.sq (.ex (.ca "check_tree" (.cons (.v 0) .nil)))
  (.sq (.ret (.ca "deeds_of" (.cons (.v 0) .nil)))
  .sk))
def T_all_deeds : Tab := fun x => if x = "check_tree" then some (.pu M_check_tree) else if x = "deeds_of" then some (.pu M_deeds_of) else none
def M_all_deeds : List D → O D := runP T_all_deeds 1 1 A_all_deeds
def A_all_kinds : S := (.sq (.ret (.bu .list (.cons (.gl "KINDS" (.tuple [(.str "click"), (.str "all"), (.str "none"), (.str "turn")])) .nil)))
  .sk)
def T_all_kinds : Tab := fun x => none
def M_all_kinds : List D → O D := runP T_all_kinds 0 0 A_all_kinds
def A_opening : S := (.sq (.ret (.bu .tuple (.cons (.bin .mul (.ls (.cons (.k (.int 0)) .nil)) (.bu .len (.cons (.v 0) .nil))) .nil)))
  .sk)
def T_opening : Tab := fun x => none
def M_opening : List D → O D := runP T_opening 1 1 A_opening
def A_ticked : S := (.sq (.ret (.bu .tuple (.cons (.co (.v 2) (.n 2) (.sq (.ca "leaves_of" (.cons (.v 0) .nil))) (.cm .eq (.ix (.v 1) (.v 2)) (.k (.int 1)))) .nil)))
  .sk)
def T_ticked : Tab := fun x => if x = "leaves_of" then some (.pu M_leaves_of) else none
def M_ticked : List D → O D := runP T_ticked 2 3 A_ticked
def A_told_by : S := (.sq (.ifs (.cm .eq (.ix (.v 0) (.k (.int 2))) (.k (.str "any"))) (.sq (.ret (.ite (.bu .any (.cons (.co (.cm .ne (.v 2) (.k (.int 0))) (.n 2) (.sq (.v 1)) (.k (.bool true))) .nil)) (.k (.int 1)) (.k (.int 0))))
  .sk) .sk)
  (.sq (.ifs (.bu .all (.cons (.co (.cm .eq (.v 2) (.k (.int 1))) (.n 2) (.sq (.v 1)) (.k (.bool true))) .nil)) (.sq (.ret (.k (.int 1)))
  .sk) .sk)
  (.sq (.ifs (.or (.cm .eq (.ix (.v 0) (.k (.int 2))) (.k (.str "every"))) (.bu .all (.cons (.co (.cm .eq (.v 2) (.k (.int 0))) (.n 2) (.sq (.v 1)) (.k (.bool true))) .nil))) (.sq (.ret (.k (.int 0)))
  .sk) .sk)
  (.sq (.ret (.k (.int 2)))
  .sk))))
def T_told_by : Tab := fun x => none
def M_told_by : List D → O D := runP T_told_by 2 3 A_told_by
def A_lifted : S := (.sq (.set 4 (.ca "parent_of" (.cons (.v 1) (.cons (.v 3) .nil))))
  (.sq (.wh (.an (.cm .ne (.v 4) (.neg (.k (.int 1)))) (.cm .ne (.ix (.v 0) (.k (.int 2))) (.k (.str "none")))) (.sq (.sti 2 (.v 4) (.ca "told_by" (.cons (.v 0) (.cons (.co (.ix (.v 2) (.v 5)) (.n 5) (.sq (.ca "children_of" (.cons (.v 1) (.cons (.v 4) .nil)))) (.k (.bool true))) .nil))))
  (.sq (.set 4 (.ca "parent_of" (.cons (.v 1) (.cons (.v 4) .nil))))
  .sk)))
  .sk))
def T_lifted : Tab := fun x => if x = "parent_of" then some (.pu M_parent_of) else if x = "told_by" then some (.pu M_told_by) else if x = "children_of" then some (.pu M_children_of) else none
def M_lifted : List D → O D := runM T_lifted 4 6 A_lifted 2
def A_spread_value : S := (.sq (.fors (.n 5) (.sq (.bin .add (.ls (.cons (.v 3) .nil)) (.ite (.cm .eq (.ix (.v 0) (.k (.int 0))) (.k (.str "all"))) (.ca "below" (.cons (.v 1) (.cons (.v 3) .nil))) (.ls .nil)))) (.sq (.sti 2 (.v 5) (.v 4))
  .sk))
  .sk)
def T_spread_value : Tab := fun x => if x = "below" then some (.pu M_below) else none
def M_spread_value : List D → O D := runM T_spread_value 5 6 A_spread_value 2
def A_clicked : S := (.sq (.set 4 (.bu .list (.cons (.v 2) .nil)))
  (.sq (.set 5 (.ite (.or (.cm .eq (.ix (.v 2) (.v 3)) (.k (.int 0))) (.an (.cm .eq (.ix (.v 2) (.v 3)) (.k (.int 2))) (.cm .eq (.ix (.v 0) (.k (.int 1))) (.k (.str "tick"))))) (.k (.int 1)) (.k (.int 0))))
  (.sq (.mc "spread_value" (.cons (.v 0) (.cons (.v 1) (.cons (.v 4) (.cons (.v 3) (.cons (.v 5) .nil))))))
  (.sq (.ifs (.an (.cm .eq (.ix (.v 0) (.k (.int 3))) (.k (.int 1))) (.cm .eq (.v 5) (.k (.int 1)))) (.sq (.fors (.n 6) (.sq (.ca "children_of" (.cons (.v 1) (.cons (.ca "parent_of" (.cons (.v 1) (.cons (.v 3) .nil))) .nil)))) (.sq (.ifs (.cm .ne (.v 6) (.v 3)) (.sq (.fors (.n 7) (.sq (.bin .add (.ls (.cons (.v 6) .nil)) (.ca "below" (.cons (.v 1) (.cons (.v 6) .nil))))) (.sq (.sti 4 (.v 7) (.k (.int 0)))
  .sk))
  .sk) .sk)
  .sk))
  .sk) .sk)
  (.sq (.mc "lifted" (.cons (.v 0) (.cons (.v 1) (.cons (.v 4) (.cons (.v 3) .nil)))))
  (.sq (.ret (.bu .tuple (.cons (.v 4) .nil)))
  .sk))))))
def T_clicked : Tab := fun x => if x = "spread_value" then some (.mu 2 M_spread_value) else if x = "lifted" then some (.mu 2 M_lifted) else if x = "children_of" then some (.pu M_children_of) else if x = "parent_of" then some (.pu M_parent_of) else if x = "below" then some (.pu M_below) else none
def M_clicked : List D → O D := runP T_clicked 4 8 A_clicked
def A_turned : S := (.sq (.set 3 (.bu .list (.cons (.v 2) .nil)))
  (.sq (.fors (.n 4) (.sq (.ca "leaves_of" (.cons (.v 1) .nil))) (.sq (.sti 3 (.v 4) (.bin .sub (.k (.int 1)) (.ix (.v 3) (.v 4))))
  .sk))
  (.sq (.ifs (.cm .ne (.ix (.v 0) (.k (.int 2))) (.k (.str "none"))) (.sq (.fors (.n 4) (.sq (.rv (.bu .lrange (.cons (.bu .len (.cons (.v 1) .nil)) .nil)))) (.sq (.ifs (.cm .nin (.v 4) (.ca "leaves_of" (.cons (.v 1) .nil))) (.sq (.sti 3 (.v 4) (.ca "told_by" (.cons (.v 0) (.cons (.co (.ix (.v 3) (.v 5)) (.n 5) (.sq (.ca "children_of" (.cons (.v 1) (.cons (.v 4) .nil)))) (.k (.bool true))) .nil))))
  .sk) .sk)
  .sk))
  .sk) .sk)
  (.sq (.ret (.bu .tuple (.cons (.v 3) .nil)))
  .sk))))
def T_turned : Tab := fun x => if x = "leaves_of" then some (.pu M_leaves_of) else if x = "told_by" then some (.pu M_told_by) else if x = "children_of" then some (.pu M_children_of) else none
def M_turned : List D → O D := runP T_turned 3 6 A_turned
def A_step : S := (.sq (.ifs (.cm .eq (.ix (.v 3) (.k (.int 0))) (.k (.str "click"))) (.sq (.set 4 (.ca "clicked" (.cons (.v 0) (.cons (.v 1) (.cons (.v 2) (.cons (.ix (.v 3) (.k (.int 1))) .nil))))))
  .sk) (.sq (.ifs (.cm .eq (.ix (.v 3) (.k (.int 0))) (.k (.str "turn"))) (.sq (.set 4 (.ca "turned" (.cons (.v 0) (.cons (.v 1) (.cons (.v 2) .nil)))))
  .sk) (.sq (.set 4 (.bu .tuple (.cons (.bin .mul (.ls (.cons (.ite (.cm .eq (.ix (.v 3) (.k (.int 0))) (.k (.str "all"))) (.k (.int 1)) (.k (.int 0))) .nil)) (.bu .len (.cons (.v 1) .nil))) .nil)))
  .sk))
  .sk))
  (.sq (.set 5 (.bu .len (.cons (.ca "ticked" (.cons (.v 1) (.cons (.v 4) .nil))) .nil)))
  (.sq (.ifs (.or (.an (.cm .eq (.ix (.v 0) (.k (.int 5))) (.k (.int 2))) (.cm .gt (.v 5) (.k (.int 2)))) (.an (.cm .eq (.ix (.v 0) (.k (.int 4))) (.k (.int 1))) (.an (.cm .eq (.v 5) (.k (.int 0))) (.cm .ne (.ca "ticked" (.cons (.v 1) (.cons (.v 2) .nil))) (.tu .nil))))) (.sq (.ret (.v 2))
  .sk) .sk)
  (.sq (.ret (.v 4))
  .sk))))
def T_step : Tab := fun x => if x = "clicked" then some (.pu M_clicked) else if x = "ticked" then some (.pu M_ticked) else if x = "turned" then some (.pu M_turned) else none
def M_step : List D → O D := runP T_step 4 6 A_step
def A_view_of : S := (.sq (.ret (.ite (.cm .eq (.v 2) (.k (.int 0))) (.v 1) (.ca "ticked" (.cons (.v 0) (.cons (.v 1) .nil)))))
  .sk)
def T_view_of : Tab := fun x => if x = "ticked" then some (.pu M_ticked) else none
def M_view_of : List D → O D := runP T_view_of 3 3 A_view_of
def A_is_word : S := (.sq (.ret (.an (.isi .str (.v 0)) (.cm .isin (.v 0) (.v 1))))
  .sk)
def T_is_word : Tab := fun x => none
def M_is_word : List D → O D := runP T_is_word 2 2 A_is_word
def A_is_way : S := (.sq (.ifs (.or (.no (.isi .tuple (.v 0))) (.cm .ne (.bu .len (.cons (.v 0) .nil)) (.k (.int 6)))) (.sq (.ret (.k (.bool false)))
  .sk) .sk)
  (.sq (.ifs (.or (.no (.ca "is_word" (.cons (.ix (.v 0) (.k (.int 0))) (.cons (.gl "DOWNS" (.tuple [(.str "all"), (.str "own")])) .nil)))) (.or (.no (.ca "is_word" (.cons (.ix (.v 0) (.k (.int 1))) (.cons (.gl "HALVES" (.tuple [(.str "tick"), (.str "clear")])) .nil)))) (.no (.ca "is_word" (.cons (.ix (.v 0) (.k (.int 2))) (.cons (.gl "UPS" (.tuple [(.str "half"), (.str "any"), (.str "every"), (.str "none")])) .nil)))))) (.sq (.ret (.k (.bool false)))
  .sk) .sk)
  (.sq (.ret (.an (.ca "is_int" (.cons (.ix (.v 0) (.k (.int 3))) (.cons (.k (.int 0)) (.cons (.k (.int 1)) .nil)))) (.an (.ca "is_int" (.cons (.ix (.v 0) (.k (.int 4))) (.cons (.k (.int 0)) (.cons (.k (.int 1)) .nil)))) (.an (.ca "is_int" (.cons (.ix (.v 0) (.k (.int 5))) (.cons (.k (.int 0)) (.cons (.k (.int 2)) .nil)))) (.cm .ne (.ix (.v 0) (.k (.int 5))) (.k (.int 1)))))))
  .sk)))
def T_is_way : Tab := fun x => if x = "is_int" then some (.pu M_is_int) else if x = "is_word" then some (.pu M_is_word) else none
def M_is_way : List D → O D := runP T_is_way 1 1 A_is_way
def A_check_way : S := (.sq (.ifs (.no (.ca "is_way" (.cons (.v 0) .nil))) (.sq (.rai "BadWay")
  .sk) .sk)
  .sk)
def T_check_way : Tab := fun x => if x = "is_way" then some (.pu M_is_way) else none
def M_check_way : List D → O D := runP T_check_way 1 1 A_check_way
def A_states_of : S := (.sq (.set 3 (.ls (.cons (.ca "opening" (.cons (.v 1) .nil)) .nil)))
  (.sq (.fors (.n 4) (.sq (.v 2)) (.sq (.app 3 (.ca "step" (.cons (.v 0) (.cons (.v 1) (.cons (.ix (.v 3) (.neg (.k (.int 1)))) (.cons (.v 4) .nil))))))
  .sk))
  (.sq (.ret (.v 3))
  .sk)))
def T_states_of : Tab := fun x => if x = "opening" then some (.pu M_opening) else if x = "step" then some (.pu M_step) else none
def M_states_of : List D → O D := runP T_states_of 3 5 A_states_of
def A_shown : S := (.sq (.ret (.co (.ca "view_of" (.cons (.v 1) (.cons (.v 4) (.cons (.v 2) .nil)))) (.n 4) (.sq (.sl (.ca "states_of" (.cons (.v 0) (.cons (.v 1) (.cons (.v 3) .nil)))) (.k (.int 1)) .na)) (.k (.bool true))))
  .sk)
def T_shown : Tab := fun x => if x = "view_of" then some (.pu M_view_of) else if x = "states_of" then some (.pu M_states_of) else none
def M_shown : List D → O D := runP T_shown 4 5 A_shown
def A_views_of : S := (.sq (.ex (.ca "check_way" (.cons (.v 0) .nil)))
  (.sq (.ex (.ca "check_tree" (.cons (.v 1) .nil)))
  (.sq (.ex (.ca "check_sight" (.cons (.v 2) .nil)))
  (.sq (.ex (.ca "check_row" (.cons (.v 1) (.cons (.v 3) .nil))))
  (.sq (.ret (.ca "shown" (.cons (.v 0) (.cons (.v 1) (.cons (.v 2) (.cons (.v 3) .nil))))))
  .sk)))))
def T_views_of : Tab := fun x => if x = "check_way" then some (.pu M_check_way) else if x = "check_tree" then some (.pu M_check_tree) else if x = "check_sight" then some (.pu M_check_sight) else if x = "check_row" then some (.pu M_check_row) else if x = "shown" then some (.pu M_shown) else none
def M_views_of : List D → O D := runP T_views_of 4 4 A_views_of
def A_states_along : S := (.sq (.ex (.ca "check_way" (.cons (.v 0) .nil)))
  (.sq (.ex (.ca "check_tree" (.cons (.v 1) .nil)))
  (.sq (.ex (.ca "check_row" (.cons (.v 1) (.cons (.v 2) .nil))))
  (.sq (.ret (.ca "states_of" (.cons (.v 0) (.cons (.v 1) (.cons (.v 2) .nil)))))
  .sk))))
def T_states_along : Tab := fun x => if x = "check_way" then some (.pu M_check_way) else if x = "check_tree" then some (.pu M_check_tree) else if x = "check_row" then some (.pu M_check_row) else if x = "states_of" then some (.pu M_states_of) else none
def M_states_along : List D → O D := runP T_states_along 3 3 A_states_along
def A_state_after : S := (.sq (.ret (.ix (.ca "states_along" (.cons (.v 0) (.cons (.v 1) (.cons (.v 2) .nil)))) (.neg (.k (.int 1)))))
  .sk)
def T_state_after : Tab := fun x => if x = "states_along" then some (.pu M_states_along) else none
def M_state_after : List D → O D := runP T_state_after 3 3 A_state_after
def A_ticked_leaves : S := (.sq (.ret (.ca "ticked" (.cons (.v 1) (.cons (.ca "state_after" (.cons (.v 0) (.cons (.v 1) (.cons (.v 2) .nil)))) .nil))))
  .sk)
def T_ticked_leaves : Tab := fun x => if x = "ticked" then some (.pu M_ticked) else if x = "state_after" then some (.pu M_state_after) else none
def M_ticked_leaves : List D → O D := runP T_ticked_leaves 3 3 A_ticked_leaves
def A_misfits : S := (.sq (.sets [3, 4] (.cons (.ca "state_after" (.cons (.v 0) (.cons (.v 1) (.cons (.v 2) .nil)))) (.cons (.ls .nil) .nil)))
  (.sq (.fors (.n 5) (.r1 (.bu .len (.cons (.v 1) .nil))) (.sq (.set 6 (.co (.ix (.v 3) (.v 7)) (.n 7) (.sq (.ca "children_of" (.cons (.v 1) (.cons (.v 5) .nil)))) (.k (.bool true))))
  (.sq (.ifs (.an (.cm .ne (.v 6) (.ls .nil)) (.cm .ne (.ca "told_by" (.cons (.tu (.cons (.k (.str "own")) (.cons (.k (.str "tick")) (.cons (.k (.str "half")) (.cons (.k (.int 0)) (.cons (.k (.int 0)) (.cons (.k (.int 0)) .nil))))))) (.cons (.v 6) .nil))) (.ix (.v 3) (.v 5)))) (.sq (.app 4 (.v 5))
  .sk) .sk)
  .sk)))
  (.sq (.ret (.v 4))
  .sk)))
def T_misfits : Tab := fun x => if x = "state_after" then some (.pu M_state_after) else if x = "children_of" then some (.pu M_children_of) else if x = "told_by" then some (.pu M_told_by) else none
def M_misfits : List D → O D := runP T_misfits 3 8 A_misfits
def A_law_pick : S := (.sq (.ret (.ix (.v 1) (.dc "_law_draw" 0 (.cons (.bu .len (.cons (.v 1) .nil)) .nil))))
  .sk)
def T_law_pick : Tab := fun x => if x = "_law_draw" then some (.dw M_law_draw) else none
def M_law_pick : List D → List Int × Int → O (D × (List Int × Int)) := runD T_law_pick 1 2 A_law_pick
def A_law_words : S := (.sq (.ret (.ls (.cons (.ls (.cons (.k (.str "all")) (.cons (.k (.str "own")) .nil))) (.cons (.ls (.cons (.k (.str "tick")) (.cons (.k (.str "clear")) .nil))) (.cons (.ls (.cons (.k (.str "half")) (.cons (.k (.str "any")) (.cons (.k (.str "every")) (.cons (.k (.str "none")) .nil))))) (.cons (.ls (.cons (.k (.int 0)) (.cons (.k (.int 1)) .nil))) (.cons (.ls (.cons (.k (.int 0)) (.cons (.k (.int 1)) .nil))) (.cons (.ls (.cons (.k (.int 0)) (.cons (.k (.int 2)) .nil))) .nil))))))))
  .sk)
def T_law_words : Tab := fun x => none
def M_law_words : List D → O D := runP T_law_words 0 0 A_law_words
def A_law_kinds : S := (.sq (.ret (.ls (.cons (.k (.str "click")) (.cons (.k (.str "all")) (.cons (.k (.str "none")) (.cons (.k (.str "turn")) .nil))))))
  .sk)
def T_law_kinds : Tab := fun x => none
def M_law_kinds : List D → O D := runP T_law_kinds 0 0 A_law_kinds
def A_law_deeds : S := (.sq (.ret (.bin .add (.co (.tu (.cons (.k (.str "click")) (.cons (.v 1) .nil))) (.n 1) (.r1 (.bu .len (.cons (.v 0) .nil))) (.k (.bool true))) (.ls (.cons (.tu (.cons (.k (.str "all")) .nil)) (.cons (.tu (.cons (.k (.str "none")) .nil)) (.cons (.tu (.cons (.k (.str "turn")) .nil)) .nil))))))
  .sk)
def T_law_deeds : Tab := fun x => none
def M_law_deeds : List D → O D := runP T_law_deeds 1 2 A_law_deeds
def A_law_forest : S := (.sq (.set 1 (.ls (.cons (.ls (.cons (.k (.int 0)) .nil)) .nil)))
  (.sq (.fors (.n 2) (.r1 (.bin .sub (.v 0) (.k (.int 1)))) (.sq (.set 3 (.ls .nil))
  (.sq (.fors (.n 4) (.sq (.v 1)) (.sq (.set 3 (.bin .add (.v 3) (.co (.bin .add (.v 4) (.ls (.cons (.v 5) .nil))) (.n 5) (.r1 (.bin .add (.ix (.v 4) (.neg (.k (.int 1)))) (.k (.int 2)))) (.k (.bool true)))))
  .sk))
  (.sq (.set 1 (.v 3))
  .sk))))
  (.sq (.ret (.co (.v 4) (.n 4) (.sq (.v 1)) (.cm .gt (.bu .max1 (.cons (.v 4) .nil)) (.k (.int 0)))))
  .sk)))
def T_law_forest : Tab := fun x => none
def M_law_forest : List D → O D := runP T_law_forest 1 6 A_law_forest
def A_law_tree : S := (.sq (.sets [2, 3] (.cons (.bin .add (.k (.int 2)) (.bu .max2 (.cons (.dc "_law_draw" 0 (.cons (.bin .sub (.v 1) (.k (.int 1))) .nil)) (.cons (.dc "_law_draw" 0 (.cons (.bin .sub (.v 1) (.k (.int 1))) .nil)) .nil)))) (.cons (.ls (.cons (.k (.int 0)) .nil)) .nil)))
  (.sq (.wh (.cm .lt (.bu .len (.cons (.v 3) .nil)) (.v 2)) (.sq (.app 3 (.dc "_law_draw" 0 (.cons (.bin .add (.ix (.v 3) (.neg (.k (.int 1)))) (.k (.int 2))) .nil)))
  .sk))
  (.sq (.ret (.ite (.cm .gt (.bu .max1 (.cons (.v 3) .nil)) (.k (.int 0))) (.v 3) (.bin .add (.sl (.v 3) .na (.neg (.k (.int 1)))) (.ls (.cons (.k (.int 1)) .nil)))))
  .sk)))
def T_law_tree : Tab := fun x => if x = "_law_draw" then some (.dw M_law_draw) else none
def M_law_tree : List D → List Int × Int → O (D × (List Int × Int)) := runD T_law_tree 1 4 A_law_tree
def A_law_way : S := (.sq (.ret (.bu .tuple (.cons (.co (.dc "_law_pick" 0 (.cons (.v 1) .nil)) (.n 1) (.sq (.c0 "_law_words")) (.k (.bool true))) .nil)))
  .sk)
def T_law_way : Tab := fun x => if x = "_law_pick" then some (.dw M_law_pick) else if x = "_law_words" then some (.pu M_law_words) else none
def M_law_way : List D → List Int × Int → O (D × (List Int × Int)) := runD T_law_way 0 2 A_law_way
def A_law_row : S := (.sq (.set 3 (.co (.tu (.cons (.k (.str "click")) (.cons (.v 4) .nil))) (.n 4) (.r1 (.bu .len (.cons (.v 1) .nil))) (.k (.bool true))))
  (.sq (.set 5 (.ls .nil))
  (.sq (.fors (.n 6) (.r1 (.dc "_law_draw" 0 (.cons (.bin .add (.v 2) (.k (.int 1))) .nil))) (.sq (.app 5 (.dc "_law_pick" 0 (.cons (.bin .add (.bin .add (.ca "_law_deeds" (.cons (.v 1) .nil)) (.v 3)) (.v 3)) .nil)))
  .sk))
  (.sq (.ret (.v 5))
  .sk))))
def T_law_row : Tab := fun x => if x = "_law_draw" then some (.dw M_law_draw) else if x = "_law_pick" then some (.dw M_law_pick) else if x = "_law_deeds" then some (.pu M_law_deeds) else none
def M_law_row : List D → List Int × Int → O (D × (List Int × Int)) := runD T_law_row 2 7 A_law_row
def A_law_above : S := (.sq (.sets [2, 3] (.cons (.ls .nil) (.cons (.ix (.v 0) (.v 1)) .nil)))
  (.sq (.fors (.n 4) (.sq (.rv (.bu .lrange (.cons (.v 1) .nil)))) (.sq (.ifs (.cm .lt (.ix (.v 0) (.v 4)) (.v 3)) (.sq (.app 2 (.v 4))
  (.sq (.set 3 (.ix (.v 0) (.v 4)))
  .sk)) .sk)
  .sk))
  (.sq (.ret (.v 2))
  .sk)))
def T_law_above : Tab := fun x => none
def M_law_above : List D → O D := runP T_law_above 2 5 A_law_above
def A_law_children : S := (.sq (.ret (.co (.v 2) (.n 2) (.r1 (.bu .len (.cons (.v 0) .nil))) (.cm .eq (.sl (.ca "_law_above" (.cons (.v 0) (.cons (.v 2) .nil))) .na (.k (.int 1))) (.ls (.cons (.v 1) .nil)))))
  .sk)
def T_law_children : Tab := fun x => if x = "_law_above" then some (.pu M_law_above) else none
def M_law_children : List D → O D := runP T_law_children 2 3 A_law_children
def A_law_leaves : S := (.sq (.ret (.co (.v 1) (.n 1) (.r1 (.bu .len (.cons (.v 0) .nil))) (.cm .eq (.ca "_law_children" (.cons (.v 0) (.cons (.v 1) .nil))) (.ls .nil))))
  .sk)
def T_law_leaves : Tab := fun x => if x = "_law_children" then some (.pu M_law_children) else none
def M_law_leaves : List D → O D := runP T_law_leaves 1 2 A_law_leaves
def A_law_ticked : S := (.sq (.ret (.bu .tuple (.cons (.co (.v 2) (.n 2) (.sq (.ca "_law_leaves" (.cons (.v 0) .nil))) (.cm .eq (.ix (.v 1) (.v 2)) (.k (.int 1)))) .nil)))
  .sk)
def T_law_ticked : Tab := fun x => if x = "_law_leaves" then some (.pu M_law_leaves) else none
def M_law_ticked : List D → O D := runP T_law_ticked 2 3 A_law_ticked
def A_law_told : S := (.sq (.set 4 (.co (.ix (.v 2) (.v 5)) (.n 5) (.sq (.ca "_law_children" (.cons (.v 1) (.cons (.v 3) .nil)))) (.k (.bool true))))
  (.sq (.ifs (.cm .eq (.v 0) (.k (.str "any"))) (.sq (.ret (.ite (.cm .eq (.v 4) (.bin .mul (.ls (.cons (.k (.int 0)) .nil)) (.bu .len (.cons (.v 4) .nil)))) (.k (.int 0)) (.k (.int 1))))
  .sk) .sk)
  (.sq (.ifs (.cm .eq (.v 4) (.bin .mul (.ls (.cons (.k (.int 1)) .nil)) (.bu .len (.cons (.v 4) .nil)))) (.sq (.ret (.k (.int 1)))
  .sk) .sk)
  (.sq (.ret (.ite (.an (.cm .eq (.v 0) (.k (.str "half"))) (.cm .ne (.v 4) (.bin .mul (.ls (.cons (.k (.int 0)) .nil)) (.bu .len (.cons (.v 4) .nil))))) (.k (.int 2)) (.k (.int 0))))
  .sk))))
def T_law_told : Tab := fun x => if x = "_law_children" then some (.pu M_law_children) else none
def M_law_told : List D → O D := runP T_law_told 4 6 A_law_told
def A_law_click : S := (.sq (.set 4 (.ite (.cm .eq (.ix (.v 2) (.v 3)) (.k (.int 0))) (.k (.int 1)) (.ite (.or (.cm .eq (.ix (.v 2) (.v 3)) (.k (.int 1))) (.cm .eq (.ix (.v 0) (.k (.int 1))) (.k (.str "clear")))) (.k (.int 0)) (.k (.int 1)))))
  (.sq (.set 5 (.co (.v 6) (.n 6) (.r1 (.bu .len (.cons (.v 1) .nil))) (.or (.cm .eq (.v 6) (.v 3)) (.an (.cm .eq (.ix (.v 0) (.k (.int 0))) (.k (.str "all"))) (.cm .isin (.v 3) (.ca "_law_above" (.cons (.v 1) (.cons (.v 6) .nil))))))))
  (.sq (.set 7 (.ls .nil))
  (.sq (.ifs (.an (.cm .eq (.ix (.v 0) (.k (.int 3))) (.k (.int 1))) (.cm .eq (.v 4) (.k (.int 1)))) (.sq (.set 8 (.co (.v 6) (.n 6) (.r1 (.bu .len (.cons (.v 1) .nil))) (.an (.cm .eq (.sl (.ca "_law_above" (.cons (.v 1) (.cons (.v 6) .nil))) .na (.k (.int 1))) (.sl (.ca "_law_above" (.cons (.v 1) (.cons (.v 3) .nil))) .na (.k (.int 1)))) (.cm .ne (.v 6) (.v 3)))))
  (.sq (.set 7 (.co (.v 6) (.n 6) (.r1 (.bu .len (.cons (.v 1) .nil))) (.cm .ne (.co (.v 9) (.n 9) (.sq (.bin .add (.ls (.cons (.v 6) .nil)) (.ca "_law_above" (.cons (.v 1) (.cons (.v 6) .nil))))) (.cm .isin (.v 9) (.v 8))) (.ls .nil))))
  .sk)) .sk)
  (.sq (.set 10 (.co (.ite (.cm .isin (.v 11) (.v 5)) (.v 4) (.ite (.cm .isin (.v 11) (.v 7)) (.k (.int 0)) (.ix (.v 2) (.v 11)))) (.n 11) (.r1 (.bu .len (.cons (.v 1) .nil))) (.k (.bool true))))
  (.sq (.fors (.n 9) (.sq (.ite (.cm .ne (.ix (.v 0) (.k (.int 2))) (.k (.str "none"))) (.ca "_law_above" (.cons (.v 1) (.cons (.v 3) .nil))) (.ls .nil))) (.sq (.sti 10 (.v 9) (.ca "_law_told" (.cons (.ix (.v 0) (.k (.int 2))) (.cons (.v 1) (.cons (.v 10) (.cons (.v 9) .nil))))))
  .sk))
  (.sq (.ret (.v 10))
  .sk)))))))
def T_law_click : Tab := fun x => if x = "_law_above" then some (.pu M_law_above) else if x = "_law_told" then some (.pu M_law_told) else none
def M_law_click : List D → O D := runP T_law_click 4 12 A_law_click
def A_law_step : S := (.sq (.ifs (.cm .eq (.ix (.v 3) (.k (.int 0))) (.k (.str "click"))) (.sq (.set 4 (.ca "_law_click" (.cons (.v 0) (.cons (.v 1) (.cons (.v 2) (.cons (.ix (.v 3) (.k (.int 1))) .nil))))))
  .sk) (.sq (.ifs (.cm .eq (.ix (.v 3) (.k (.int 0))) (.k (.str "turn"))) (.sq (.set 4 (.co (.ite (.cm .isin (.v 5) (.ca "_law_leaves" (.cons (.v 1) .nil))) (.bin .sub (.k (.int 1)) (.ix (.v 2) (.v 5))) (.ix (.v 2) (.v 5))) (.n 5) (.r1 (.bu .len (.cons (.v 1) .nil))) (.k (.bool true))))
  (.sq (.fors (.n 6) (.sq (.rv (.bu .lrange (.cons (.bu .len (.cons (.v 1) .nil)) .nil)))) (.sq (.ifs (.an (.cm .ne (.ix (.v 0) (.k (.int 2))) (.k (.str "none"))) (.cm .nin (.v 6) (.ca "_law_leaves" (.cons (.v 1) .nil)))) (.sq (.sti 4 (.v 6) (.ca "_law_told" (.cons (.ix (.v 0) (.k (.int 2))) (.cons (.v 1) (.cons (.v 4) (.cons (.v 6) .nil))))))
  .sk) .sk)
  .sk))
  .sk)) (.sq (.set 4 (.bin .mul (.ls (.cons (.ite (.cm .eq (.ix (.v 3) (.k (.int 0))) (.k (.str "all"))) (.k (.int 1)) (.k (.int 0))) .nil)) (.bu .len (.cons (.v 1) .nil))))
  .sk))
  .sk))
  (.sq (.sets [7, 8] (.cons (.bu .len (.cons (.ca "_law_ticked" (.cons (.v 1) (.cons (.v 4) .nil))) .nil)) (.cons (.bu .len (.cons (.ca "_law_ticked" (.cons (.v 1) (.cons (.v 2) .nil))) .nil)) .nil)))
  (.sq (.ret (.ite (.or (.an (.cm .eq (.ix (.v 0) (.k (.int 5))) (.k (.int 2))) (.cm .gt (.v 7) (.k (.int 2)))) (.an (.cm .eq (.ix (.v 0) (.k (.int 4))) (.k (.int 1))) (.an (.cm .eq (.v 7) (.k (.int 0))) (.cm .gt (.v 8) (.k (.int 0)))))) (.v 2) (.bu .tuple (.cons (.v 4) .nil))))
  .sk)))
def T_law_step : Tab := fun x => if x = "_law_click" then some (.pu M_law_click) else if x = "_law_ticked" then some (.pu M_law_ticked) else if x = "_law_told" then some (.pu M_law_told) else if x = "_law_leaves" then some (.pu M_law_leaves) else none
def M_law_step : List D → O D := runP T_law_step 4 9 A_law_step
def A_law_first : S := (.sq (.ret (.bu .tuple (.cons (.bin .mul (.ls (.cons (.k (.int 0)) .nil)) (.bu .len (.cons (.v 0) .nil))) .nil)))
  .sk)
def T_law_first : Tab := fun x => none
def M_law_first : List D → O D := runP T_law_first 1 1 A_law_first
def A_law_states : S := (.sq (.set 3 (.ls (.cons (.ca "_law_first" (.cons (.v 1) .nil)) .nil)))
  (.sq (.fors (.n 4) (.sq (.v 2)) (.sq (.app 3 (.ca "_law_step" (.cons (.v 0) (.cons (.v 1) (.cons (.ix (.v 3) (.neg (.k (.int 1)))) (.cons (.v 4) .nil))))))
  .sk))
  (.sq (.ret (.v 3))
  .sk)))
def T_law_states : Tab := fun x => if x = "_law_first" then some (.pu M_law_first) else if x = "_law_step" then some (.pu M_law_step) else none
def M_law_states : List D → O D := runP T_law_states 3 5 A_law_states
def A_law_view : S := (.sq (.ret (.ite (.cm .eq (.v 2) (.k (.int 0))) (.v 1) (.ca "_law_ticked" (.cons (.v 0) (.cons (.v 1) .nil)))))
  .sk)
def T_law_view : Tab := fun x => if x = "_law_ticked" then some (.pu M_law_ticked) else none
def M_law_view : List D → O D := runP T_law_view 3 3 A_law_view
end Tk
set_option linter.all false
set_option Elab.async false
set_option maxRecDepth 100000
namespace Tk
open PySem
def A_check_deed : S := (.sq (.ifs (.no (.ca "is_one" (.cons (.v 0) (.cons (.v 1) .nil)))) (.sq (.rai "BadDeeds")
  .sk) .sk)
  .sk)
def T_check_deed : Tab := fun x => if x = "is_one" then some (.pu M_is_one) else none
def M_check_deed : List D → O D := runP T_check_deed 2 2 A_check_deed
def A_rows_of : S := (.sq (.sets [2, 3, 4, 5] (.cons (.d1 (.ca "opening" (.cons (.v 1) .nil)) (.ls .nil)) (.cons (.ls (.cons (.ca "opening" (.cons (.v 1) .nil)) .nil)) (.cons (.k (.int 0)) (.cons (.ca "deeds_of" (.cons (.v 1) .nil)) .nil)))))
  (.sq (.wh (.cm .lt (.v 4) (.bu .len (.cons (.v 3) .nil))) (.sq (.fors (.n 6) (.sq (.v 5)) (.sq (.set 7 (.ca "step" (.cons (.v 0) (.cons (.v 1) (.cons (.ix (.v 3) (.v 4)) (.cons (.v 6) .nil))))))
  (.sq (.ifs (.cm .nin (.v 7) (.v 2)) (.sq (.sti 2 (.v 7) (.bin .add (.ix (.v 2) (.ix (.v 3) (.v 4))) (.ls (.cons (.v 6) .nil))))
  (.sq (.app 3 (.v 7))
  .sk)) .sk)
  .sk)))
  (.sq (.aug 4 (.k (.int 1)))
  .sk)))
  (.sq (.ret (.v 2))
  .sk)))
def T_rows_of : Tab := fun x => if x = "deeds_of" then some (.pu M_deeds_of) else if x = "opening" then some (.pu M_opening) else if x = "step" then some (.pu M_step) else none
def M_rows_of : List D → O D := runP T_rows_of 2 8 A_rows_of
def A_law_true : S := (.sq (.ret (.an (.isi .bool (.v 0)) (.cm .eq (.v 0) (.v 1))))
  .sk)
def T_law_true : Tab := fun x => none
def M_law_true : List D → O D := runP T_law_true 2 2 A_law_true
def A_law_reach : S := (.sq (.sets [4, 5] (.cons (.d1 (.v 3) (.ls .nil)) (.cons (.ls (.cons (.v 3) .nil)) .nil)))
  (.sq (.wh (.cm .ne (.v 5) (.ls .nil)) (.sq (.set 6 (.ls .nil))
  (.sq (.fors (.n 7) (.sq (.v 5)) (.sq (.fors (.n 8) (.sq (.v 2)) (.sq (.set 9 (.ca "_law_step" (.cons (.v 0) (.cons (.v 1) (.cons (.v 7) (.cons (.v 8) .nil))))))
  (.sq (.ifs (.cm .nin (.v 9) (.v 4)) (.sq (.sti 4 (.v 9) (.bin .add (.ix (.v 4) (.v 7)) (.ls (.cons (.v 8) .nil))))
  (.sq (.app 6 (.v 9))
  .sk)) .sk)
  .sk)))
  .sk))
  (.sq (.set 5 (.v 6))
  .sk))))
  (.sq (.ret (.v 4))
  .sk)))
def T_law_reach : Tab := fun x => if x = "_law_step" then some (.pu M_law_step) else none
def M_law_reach : List D → O D := runP T_law_reach 4 10 A_law_reach
end Tk
set_option linter.all false
set_option Elab.async false
set_option maxRecDepth 100000
namespace Tk
open PySem
def A_is_ticks : S := (.sq (.ifs (.or (.no (.isi .tuple (.v 0))) (.no (.bu .all (.cons (.co (.ca "is_int" (.cons (.v 2) (.cons (.k (.int 0)) (.cons (.bin .sub (.bu .len (.cons (.v 1) .nil)) (.k (.int 1))) .nil)))) (.n 2) (.sq (.v 0)) (.k (.bool true))) .nil)))) (.sq (.ret (.k (.bool false)))
  .sk) .sk)
  (.sq (.ret (.cm .eq (.bu .list (.cons (.v 0) .nil)) (.co (.v 3) (.n 3) (.sq (.ca "leaves_of" (.cons (.v 1) .nil))) (.cm .isin (.v 3) (.v 0)))))
  .sk))
def T_is_ticks : Tab := fun x => if x = "leaves_of" then some (.pu M_leaves_of) else if x = "is_int" then some (.pu M_is_int) else none
def M_is_ticks : List D → O D := runP T_is_ticks 2 4 A_is_ticks
def A_check_family : S := (.sq (.ifs (.or (.no (.isi .list (.v 0))) (.or (.no (.ch (.k (.int 1)) (.bu .len (.cons (.v 0) .nil)) (.k (.int 8)))) (.no (.bu .all (.cons (.co (.ca "is_way" (.cons (.v 1) .nil)) (.n 1) (.sq (.v 0)) (.k (.bool true))) .nil))))) (.sq (.rai "BadWay")
  .sk) .sk)
  .sk)
def T_check_family : Tab := fun x => if x = "is_way" then some (.pu M_is_way) else none
def M_check_family : List D → O D := runP T_check_family 1 2 A_check_family
def A_is_view : S := (.sq (.ifs (.cm .eq (.v 2) (.k (.int 1))) (.sq (.ret (.ca "is_ticks" (.cons (.v 0) (.cons (.v 1) .nil))))
  .sk) .sk)
  (.sq (.ret (.an (.isi .tuple (.v 0)) (.an (.cm .eq (.bu .len (.cons (.v 0) .nil)) (.bu .len (.cons (.v 1) .nil))) (.bu .all (.cons (.co (.ca "is_int" (.cons (.v 3) (.cons (.k (.int 0)) (.cons (.k (.int 2)) .nil)))) (.n 3) (.sq (.v 0)) (.k (.bool true))) .nil)))))
  .sk))
def T_is_view : Tab := fun x => if x = "is_ticks" then some (.pu M_is_ticks) else if x = "is_int" then some (.pu M_is_int) else none
def M_is_view : List D → O D := runP T_is_view 3 4 A_is_view
def A_is_view_row : S := (.sq (.ifs (.or (.no (.isi .list (.v 0))) (.cm .gt (.bu .len (.cons (.v 0) .nil)) (.gl "MOST_VIEWS" (.int 40)))) (.sq (.ret (.k (.bool false)))
  .sk) .sk)
  (.sq (.ret (.bu .all (.cons (.co (.ca "is_view" (.cons (.v 3) (.cons (.v 1) (.cons (.v 2) .nil)))) (.n 3) (.sq (.v 0)) (.k (.bool true))) .nil)))
  .sk))
def T_is_view_row : Tab := fun x => if x = "is_view" then some (.pu M_is_view) else none
def M_is_view_row : List D → O D := runP T_is_view_row 3 4 A_is_view_row
def A_is_record : S := (.sq (.ifs (.or (.no (.isi .tuple (.v 0))) (.or (.cm .ne (.bu .len (.cons (.v 0) .nil)) (.k (.int 2))) (.no (.ca "are_deeds" (.cons (.v 1) (.cons (.ix (.v 0) (.k (.int 0))) .nil)))))) (.sq (.ret (.k (.bool false)))
  .sk) .sk)
  (.sq (.ret (.an (.ca "is_view_row" (.cons (.ix (.v 0) (.k (.int 1))) (.cons (.v 1) (.cons (.v 2) .nil)))) (.cm .eq (.bu .len (.cons (.ix (.v 0) (.k (.int 0))) .nil)) (.bu .len (.cons (.ix (.v 0) (.k (.int 1))) .nil)))))
  .sk))
def T_is_record : Tab := fun x => if x = "is_view_row" then some (.pu M_is_view_row) else if x = "are_deeds" then some (.pu M_are_deeds) else none
def M_is_record : List D → O D := runP T_is_record 3 3 A_is_record
def A_bar_of : S := (.sq (.fors (.t (.cons (.n 4) (.cons (.t (.cons (.n 5) (.cons (.n 6) .nil))) .nil))) (.ez (.ca "shown" (.cons (.v 0) (.cons (.v 1) (.cons (.v 2) (.cons (.ix (.v 3) (.k (.int 0))) .nil))))) (.ix (.v 3) (.k (.int 1)))) (.sq (.ifs (.cm .ne (.v 5) (.v 6)) (.sq (.ret (.v 4))
  .sk) .sk)
  .sk))
  (.sq (.ret (.k .none))
  .sk))
def T_bar_of : Tab := fun x => if x = "shown" then some (.pu M_shown) else none
def M_bar_of : List D → O D := runP T_bar_of 4 7 A_bar_of
def A_first_bar : S := (.sq (.ex (.ca "check_way" (.cons (.v 0) .nil)))
  (.sq (.ex (.ca "check_tree" (.cons (.v 1) .nil)))
  (.sq (.ex (.ca "check_sight" (.cons (.v 2) .nil)))
  (.sq (.ifs (.no (.ca "is_record" (.cons (.v 3) (.cons (.v 1) (.cons (.v 2) .nil))))) (.sq (.rai "BadViews")
  .sk) .sk)
  (.sq (.ret (.ca "bar_of" (.cons (.v 0) (.cons (.v 1) (.cons (.v 2) (.cons (.v 3) .nil))))))
  .sk)))))
def T_first_bar : Tab := fun x => if x = "check_way" then some (.pu M_check_way) else if x = "check_tree" then some (.pu M_check_tree) else if x = "check_sight" then some (.pu M_check_sight) else if x = "bar_of" then some (.pu M_bar_of) else if x = "is_record" then some (.pu M_is_record) else none
def M_first_bar : List D → O D := runP T_first_bar 4 4 A_first_bar
def A_made : S := (.sq (.ret (.isn false (.ca "first_bar" (.cons (.v 0) (.cons (.v 1) (.cons (.v 2) (.cons (.v 3) .nil)))))))
  .sk)
def T_made : Tab := fun x => if x = "first_bar" then some (.pu M_first_bar) else none
def M_made : List D → O D := runP T_made 4 4 A_made
def A_bars : S := (.sq (.ex (.ca "check_family" (.cons (.v 0) .nil)))
  (.sq (.ex (.ca "check_tree" (.cons (.v 1) .nil)))
  (.sq (.ex (.ca "check_sight" (.cons (.v 2) .nil)))
  (.sq (.ifs (.or (.no (.isi .list (.v 3))) (.no (.ch (.k (.int 1)) (.bu .len (.cons (.v 3) .nil)) (.k (.int 12))))) (.sq (.rai "BadViews")
  .sk) .sk)
  (.sq (.ifs (.no (.bu .all (.cons (.co (.ca "is_record" (.cons (.v 4) (.cons (.v 1) (.cons (.v 2) .nil)))) (.n 4) (.sq (.v 3)) (.k (.bool true))) .nil))) (.sq (.rai "BadViews")
  .sk) .sk)
  (.sq (.set 5 (.ls .nil))
  (.sq (.fors (.n 6) (.sq (.v 0)) (.sq (.set 7 (.co (.ca "bar_of" (.cons (.v 6) (.cons (.v 1) (.cons (.v 2) (.cons (.v 8) .nil))))) (.n 8) (.sq (.v 3)) (.k (.bool true))))
  (.sq (.set 9 (.co (.tu (.cons (.v 10) (.cons (.v 11) .nil))) (.t (.cons (.n 10) (.cons (.n 11) .nil))) (.en (.v 7)) (.isn true (.v 11))))
  (.sq (.app 5 (.ite (.cm .ne (.v 9) (.ls .nil)) (.ix (.v 9) (.k (.int 0))) (.k .none)))
  .sk))))
  (.sq (.ret (.v 5))
  .sk))))))))
def T_bars : Tab := fun x => if x = "check_family" then some (.pu M_check_family) else if x = "check_tree" then some (.pu M_check_tree) else if x = "check_sight" then some (.pu M_check_sight) else if x = "bar_of" then some (.pu M_bar_of) else if x = "is_record" then some (.pu M_is_record) else none
def M_bars : List D → O D := runP T_bars 4 12 A_bars
def A_remains : S := (.sq (.ret (.co (.v 4) (.t (.cons (.n 4) (.cons (.n 5) .nil))) (.en (.ca "bars" (.cons (.v 0) (.cons (.v 1) (.cons (.v 2) (.cons (.v 3) .nil)))))) (.isn false (.v 5))))
  .sk)
def T_remains : Tab := fun x => if x = "bars" then some (.pu M_bars) else none
def M_remains : List D → O D := runP T_remains 4 6 A_remains
def A_groups_by : S := (.sq (.set 1 (.ls .nil))
  (.sq (.fors (.t (.cons (.n 2) (.cons (.n 3) .nil))) (.en (.v 0)) (.sq (.ifs (.cm .nin (.v 3) (.sl (.v 0) .na (.v 2))) (.sq (.app 1 (.co (.v 4) (.n 4) (.r1 (.bu .len (.cons (.v 0) .nil))) (.cm .eq (.ix (.v 0) (.v 4)) (.v 3))))
  .sk) .sk)
  .sk))
  (.sq (.ret (.v 1))
  .sk)))
def T_groups_by : Tab := fun x => none
def M_groups_by : List D → O D := runP T_groups_by 1 5 A_groups_by
def A_groups : S := (.sq (.ex (.ca "check_family" (.cons (.v 0) .nil)))
  (.sq (.ex (.ca "check_tree" (.cons (.v 1) .nil)))
  (.sq (.ex (.ca "check_sight" (.cons (.v 2) .nil)))
  (.sq (.ex (.ca "check_row" (.cons (.v 1) (.cons (.v 3) .nil))))
  (.sq (.ret (.ca "groups_by" (.cons (.co (.ca "shown" (.cons (.v 4) (.cons (.v 1) (.cons (.v 2) (.cons (.v 3) .nil))))) (.n 4) (.sq (.v 0)) (.k (.bool true))) .nil)))
  .sk)))))
def T_groups : Tab := fun x => if x = "check_family" then some (.pu M_check_family) else if x = "check_tree" then some (.pu M_check_tree) else if x = "check_sight" then some (.pu M_check_sight) else if x = "check_row" then some (.pu M_check_row) else if x = "groups_by" then some (.pu M_groups_by) else if x = "shown" then some (.pu M_shown) else none
def M_groups : List D → O D := runP T_groups 4 5 A_groups
def A_law_views : S := (.sq (.ret (.co (.ca "_law_view" (.cons (.v 1) (.cons (.v 4) (.cons (.v 2) .nil)))) (.n 4) (.sq (.sl (.ca "_law_states" (.cons (.v 0) (.cons (.v 1) (.cons (.v 3) .nil)))) (.k (.int 1)) .na)) (.k (.bool true))))
  .sk)
def T_law_views : Tab := fun x => if x = "_law_view" then some (.pu M_law_view) else if x = "_law_states" then some (.pu M_law_states) else none
def M_law_views : List D → O D := runP T_law_views 4 5 A_law_views
def A_law_groups : S := (.sq (.set 1 (.co (.v 2) (.n 2) (.r1 (.bu .len (.cons (.v 0) .nil))) (.cm .nin (.ix (.v 0) (.v 2)) (.sl (.v 0) .na (.v 2)))))
  (.sq (.ret (.co (.co (.v 2) (.n 2) (.r1 (.bu .len (.cons (.v 0) .nil))) (.cm .eq (.ix (.v 0) (.v 2)) (.ix (.v 0) (.v 3)))) (.n 3) (.sq (.v 1)) (.k (.bool true))))
  .sk))
def T_law_groups : Tab := fun x => none
def M_law_groups : List D → O D := runP T_law_groups 1 4 A_law_groups
end Tk
set_option linter.all false
set_option Elab.async false
set_option maxRecDepth 100000
/-! TkDic: dicts whose keys are tuples of ints and such tuples. -/
namespace Tk
open PySem L2

/-! ### hashes that need no world -/
mutual
def hash0 : NestedKey → Int
  | .none => reduceHash 0xFCA86420
  | .num i => hashInt i
  | .text _ => 0
  | .tup ks => reduceHash (Builtin.Tuple.tupleHashOf (hash0s ks))
def hash0s : List NestedKey → List Int
  | [] => []
  | k :: ks => hash0 k :: hash0s ks
end
mutual
def plainK : NestedKey → Bool
  | .none => true
  | .num _ => true
  | .text _ => false
  | .tup ks => plainKs ks
def plainKs : List NestedKey → Bool
  | [] => true
  | k :: ks => plainK k && plainKs ks
end
mutual
theorem hash0_eq (w : World) : ∀ k : NestedKey, plainK k = true → k.hash w = hash0 k
  | .none, _ => rfl
  | .num _, _ => rfl
  | .text _, h => by simp [plainK] at h
  | .tup ks, h => by
    simp only [plainK] at h
    simp only [NestedKey.hash, hash0, hash0s_eq w ks h]
theorem hash0s_eq (w : World) : ∀ ks : List NestedKey, plainKs ks = true → NestedKey.hashes w ks = hash0s ks
  | [], _ => rfl
  | k :: ks, h => by
    simp only [plainKs, Bool.and_eq_true] at h
    simp only [NestedKey.hashes, hash0s, hash0_eq w k h.1, hash0s_eq w ks h.2]
end

/-! ### keys in the abstract heap -/
mutual
def KIs (K : PySem.W.Frag) (H : Hp) : NestedKey → V → Prop
  | .num i, v => v = .int i
  | .tup ks, v => ∃ a xs, v = .ref a ∧ SqT K H a xs ∧ KIsL K H ks xs
  | .none, _ => False
  | .text _, _ => False
def KIsL (K : PySem.W.Frag) (H : Hp) : List NestedKey → List V → Prop
  | [], [] => True
  | k :: ks, x :: xs => KIs K H k x ∧ KIsL K H ks xs
  | _, _ => False
end
mutual
theorem KIs.plain {K : PySem.W.Frag} {H : Hp} : ∀ (k : NestedKey) {v : V}, KIs K H k v → plainK k = true
  | .num i, v, _ => rfl
  | .tup ks, v, h => by
    simp only [KIs] at h
    obtain ⟨a, xs, _, _, h⟩ := h
    simp only [plainK]
    exact KIsL.plain ks h
  | .none, v, h => by simp [KIs] at h
  | .text _, v, h => by simp [KIs] at h
theorem KIsL.plain {K : PySem.W.Frag} {H : Hp} : ∀ (ks : List NestedKey) {vs : List V}, KIsL K H ks vs → plainKs ks = true
  | [], _, _ => rfl
  | k :: ks, [], h => by simp [KIsL] at h
  | k :: ks, v :: vs, h => by
    simp only [KIsL] at h
    simp only [plainKs, Bool.and_eq_true]
    exact ⟨KIs.plain k h.1, KIsL.plain ks h.2⟩
end
section
variable {X : Cx} {pins : List (Addr × Obj)} {σ : L2.St} {H : Hp} {s : Shared}
mutual
theorem KIs.at (I : Inv X pins σ H s) : ∀ (k : NestedKey) {v : V} {u : Value}, KIs X.K H k v → RelV v u → NestedIs s.heap k u
  | .num i, v, u, h, r => by
    simp only [KIs] at h; subst h
    obtain ⟨t, rfl⟩ := (show ∃ t, u = Value.int i t from r)
    exact .int i t
  | .tup ks, v, u, h, r => by
    simp only [KIs] at h
    obtain ⟨a, xs, rfl, sq, h⟩ := h
    obtain rfl : u = Value.ref a := r
    obtain ⟨its, rv, ⟨o, e, c, n, d⟩, _⟩ := I.tuple sq
    exact .tup e c d (by simpa using KIsL.at I ks h rv)
  | .none, v, u, h, r => by simp [KIs] at h
  | .text _, v, u, h, r => by simp [KIs] at h
theorem KIsL.at (I : Inv X pins σ H s) : ∀ (ks : List NestedKey) {vs : List V} {us : List Value}, KIsL X.K H ks vs → Vals vs us → NestedAll s.heap ks us
  | [], [], _, _, .nil => .nil
  | [], _ :: _, _, h, _ => by simp [KIsL] at h
  | k :: ks, [], _, h, _ => by simp [KIsL] at h
  | k :: ks, v :: vs, _, h, .cons r rs => by
    simp only [KIsL] at h
    exact .cons (KIs.at I k h.1 r) (KIsL.at I ks h.2 rs)
end
end
/-- the tuple at b is the key k -/
def Key8 (K : PySem.W.Frag) (H : Hp) (k : NestedKey) (b : Addr) : Prop := KIs K H k (.ref b) ∧ k.depth ≤ 8
theorem Key8.at {X : Cx} {pins : List (Addr × Obj)} {σ : L2.St} {H : Hp} {s : Shared} {k : NestedKey} {b : Addr} (I : Inv X pins σ H s) (h : Key8 X.K H k b) : (nestedKind X.prog X.w).is s.heap k b := ⟨KIs.at I k h.1 rfl, h.2⟩

/-! ### the dict's object -/
/-- just the object o stands at a -/
def DO (a : Addr) (o : Obj) : HO := .ext fun h => h.get? a = some o
theorem do_ok {P : Program} {w : World} {H : Hp} {h : Heap} {a : Addr} {o : Obj} (e : h.get? a = some o) : ObjOk P w H h a (DO a o) := ⟨e, ⟨o, e⟩, fun _ _ p k => k o p⟩
theorem do_at {X : Cx} {pins : List (Addr × Obj)} {σ : L2.St} {H : Hp} {s : Shared} {a : Addr} {o : Obj} (I : Inv X pins σ H s) (e : H a = some (DO a o)) : s.heap.get? a = some o := (I.hok a _ e).1
abbrev KEnt := NestedKey × Addr × V
abbrev KEntV := NestedKey × Addr × Value
abbrev EV : List KEnt → List KEntV → Prop := Paired fun p q => p.1 = q.1 ∧ p.2.1 = q.2.1 ∧ RelV p.2.2 q.2.2
/-- o is a dict with these entries -/
structure GoodD (a : Addr) (o : Obj) (xs : List KEnt) : Prop where
  len : xs.length ≤ sizeLine
  sys : (a == sysModules) = false
  ex : o.ExactDict
  ents : ∃ es ep ys, o.data = .dict es ep ∧ EV xs ys ∧ es.toList = ys.map fun y : KEntV => (⟨hash0 y.1, .ref y.2.1, y.2.2⟩ : DictEntry)
  nd : (xs.map (·.1)).Nodup
  pl : ∀ x ∈ xs, plainK x.1 = true
def atE (xs : List KEnt) (k : NestedKey) : Option V := (xs.find? fun x => decide (x.1 = k)).map (·.2.2)
def putAtE (k : NestedKey) (v : V) (x : KEnt) : KEnt := if x.1 = k then (x.1, x.2.1, v) else x
def putE (xs : List KEnt) (k : NestedKey) (b : Addr) (v : V) : List KEnt := if (atE xs k).isSome then xs.map (putAtE k v) else xs ++ [(k, b, v)]

theorem ev_keys : ∀ {xs : List KEnt} {ys : List KEntV}, EV xs ys → xs.map (·.1) = ys.map (·.1)
  | _, _, .nil => rfl
  | _, _, .cons h t => by simp [h.1, ev_keys t]
theorem ev_at {k : NestedKey} : ∀ {xs : List KEnt} {ys : List KEntV}, EV xs ys → RelO (atE xs k) ((atKey ys k).map (·.2))
  | _, _, .nil => True.intro
  | x :: xs, y :: ys, .cons h t => by
    by_cases e : x.1 = k
    · have e' : y.1 = k := h.1 ▸ e
      have a1 : atE (x :: xs) k = some x.2.2 := by simp [atE, List.find?_cons, e]
      have a2 : atKey (y :: ys) k = some y.2 := by simp [atKey, List.find?_cons, e']
      rw [a1, a2]; exact h.2.2
    · have e' : ¬ y.1 = k := fun z => e (h.1.trans z)
      have a1 : atE (x :: xs) k = atE xs k := by simp [atE, List.find?_cons, e]
      have a2 : atKey (y :: ys) k = atKey ys k := by simp [atKey, List.find?_cons, e']
      rw [a1, a2]; exact ev_at t
theorem ev_map {k : NestedKey} {v : V} {u : Value} (r : RelV v u) : ∀ {xs : List KEnt} {ys : List KEntV}, EV xs ys → EV (xs.map (putAtE k v)) (ys.map (putAt k u))
  | _, _, .nil => .nil
  | x :: xs, y :: ys, .cons h t => by
    rw [List.map_cons, List.map_cons]
    refine .cons ?_ (ev_map r t)
    unfold putAtE putAt
    by_cases e : x.1 = k
    · rw [if_pos e, if_pos (h.1.symm.trans e)]; exact ⟨h.1, h.2.1, r⟩
    · rw [if_neg e, if_neg (fun z => e (h.1.trans z))]; exact h
theorem ev_put {xs : List KEnt} {ys : List KEntV} {k : NestedKey} {b : Addr} {v : V} {u : Value} (h : EV xs ys) (r : RelV v u) : EV (putE xs k b v) (storedH ys k b u) := by
  have e : (atE xs k).isSome = (atKey ys k).isSome := by
    have := (ev_at (k := k) h).isSome_eq
    rwa [Option.isSome_map] at this
  unfold putE storedH
  rw [e]
  by_cases q : (atKey ys k).isSome = true
  · rw [if_pos q, if_pos q]; exact ev_map r h
  · rw [if_neg q, if_neg q]; exact Paired.snoc h ⟨rfl, rfl, r⟩
theorem ev_get : ∀ {xs : List KEnt} {ys : List KEntV} {i : Nat} {x : KEnt}, EV xs ys → xs[i]? = some x → ∃ y, ys[i]? = some y ∧ x.1 = y.1 ∧ x.2.1 = y.2.1 ∧ RelV x.2.2 y.2.2
  | _, _, i, x, .nil, e => by simp at e
  | _ :: _, _ :: _, 0, x, .cons h t, e => by simp at e; subst e; exact ⟨_, rfl, h⟩
  | _ :: _, _ :: _, i + 1, x, .cons h t, e => by
    obtain ⟨y, h1, h2⟩ := ev_get (i := i) t (by simpa using e)
    exact ⟨y, by simpa using h1, h2⟩
theorem putE_len (xs : List KEnt) (k : NestedKey) (b : Addr) (v : V) : (putE xs k b v).length ≤ xs.length + 1 := by
  unfold putE
  split <;> simp
theorem putE_mem {xs : List KEnt} {k : NestedKey} {b : Addr} {v : V} {x : KEnt} (h : x ∈ putE xs k b v) : (∃ y ∈ xs, x.1 = y.1 ∧ x.2.1 = y.2.1) ∨ x = (k, b, v) := by
  unfold putE at h
  split at h
  · obtain ⟨y, hy, e⟩ := List.mem_map.mp h
    subst e
    refine .inl ⟨y, hy, ?_⟩
    unfold putAtE
    split <;> exact ⟨rfl, rfl⟩
  · rcases List.mem_append.mp h with h | h
    · exact .inl ⟨x, h, rfl, rfl⟩
    · exact .inr (by simpa using h)
theorem ents_hash {w : World} : ∀ {xs : List KEnt} {ys : List KEntV}, EV xs ys → (∀ x ∈ xs, plainK x.1 = true) → ∀ P, (ys.map fun y : KEntV => (⟨hash0 y.1, .ref y.2.1, y.2.2⟩ : DictEntry)) = ys.map (entryOfKey (nestedKind P w))
  | _, _, .nil, _, P => rfl
  | x :: xs, y :: ys, .cons h t, pl, P => by
    rw [List.map_cons, List.map_cons, ents_hash t (fun z hz => pl z (List.mem_cons_of_mem _ hz)) P]
    congr 1
    have := hash0_eq w x.1 (pl x List.mem_cons_self)
    show (⟨hash0 y.1, .ref y.2.1, y.2.2⟩ : DictEntry) = ⟨y.1.hash w, .ref y.2.1, y.2.2⟩
    rw [← h.1, this]
section
variable {X : Cx} {pins : List (Addr × Obj)} {σ : L2.St} {H : Hp} {s : Shared} {a b : Addr} {o : Obj} {xs : List KEnt} {k : NestedKey} {v : V} {u r : Value} {A : Around} {E : Value → Shared → Prop}
/-- the library's own saying -/
theorem good_at (I : Inv X pins σ H s) (e : H a = some (DO a o)) (g : GoodD a o xs) (ks : ∀ x ∈ xs, Key8 X.K H x.1 x.2.1) : ∃ ys, EV xs ys ∧ s.heap.DictOfH (nestedKind X.prog X.w) a ys := by
  obtain ⟨es, ep, ys, h1, h2, h3⟩ := g.ents
  refine ⟨ys, h2, o, es, ep, do_at I e, g.ex, h1, ?_, ?_, ?_⟩
  · rw [h3]; exact ents_hash h2 g.pl _
  · have all : ∀ {xs : List KEnt} {ys : List KEntV}, EV xs ys → (∀ x ∈ xs, Key8 X.K H x.1 x.2.1) → ∀ y ∈ ys, (nestedKind X.prog X.w).is s.heap y.1 y.2.1 := by
      intro xs ys h
      induction h with
      | nil => intro _ y hy; exact nomatch hy
      | cons h t ih =>
        intro ks y hy
        rcases List.mem_cons.mp hy with rfl | hy
        · have := (ks _ List.mem_cons_self).at I
          rwa [h.1, h.2.1] at this
        · exact ih (fun z hz => ks z (List.mem_cons_of_mem _ hz)) y hy
    exact all h2 ks
  · rw [← ev_keys h2]; exact g.nd
/-- back from it -/
theorem good_of {w : World} {P : Program} {h : Heap} {ys : List KEntV} {xs : List KEnt} (d : h.DictOfH (nestedKind P w) a ys) (r : EV xs ys) (hl : xs.length ≤ sizeLine) (hs : (a == sysModules) = false) (pl : ∀ x ∈ xs, plainK x.1 = true) : ∃ o, h.get? a = some o ∧ GoodD a o xs := by
  obtain ⟨o, es, ep, h1, h2, h3, h4, h5, h6⟩ := d
  refine ⟨o, h1, hl, hs, h2, ⟨es, ep, ys, h3, r, ?_⟩, ?_, pl⟩
  · rw [h4, ents_hash r pl P]
  · rw [ev_keys r]; exact h6
theorem room8 (hu : A.units + 65 < cLine) : (nestedKind X.prog X.w).room A.in1 := by
  show A.units + 1 + 8 < cLine; omega
theorem room8' (hu : A.units + 65 < cLine) : (nestedKind X.prog X.w).room A := by
  show A.units + 8 < cLine; omega
theorem dn_getItem {Q : Value → Shared → Prop} (hu : A.units + 65 < cLine) (I : Inv X pins σ H s) (e : H a = some (DO a o)) (g : GoodD a o xs) (ks : ∀ x ∈ xs, Key8 X.K H x.1 x.2.1) (kb : Key8 X.K H k b) (l : atE xs k = some v) (h : ∀ w' s', Inv X pins σ H s' → RelV v w' → Q w' s') :
    wpAny (model X.prog X.w) A (getItem (.ref a) (.ref b)) Q E s := by
  obtain ⟨ys, ev, dd⟩ := good_at I e g ks
  obtain ⟨w', hw, rw'⟩ := RelO.some_of (v := v) (o := (atKey ys k).map (·.2)) (by rw [← l]; exact ev_at ev)
  obtain ⟨p, hp, hp2⟩ := Option.map_eq_some_iff.mp hw
  refine wpAny_getItem_heap (room8 hu) (kb.at I) dd hp ?_
  rw [hp2]
  exact h w' _ (I.tok _) rw'
theorem dn_some (ev : EV xs ys) : (atE xs k).isSome = (atKey ys k).isSome := by
  have := (ev_at (k := k) ev).isSome_eq
  rwa [Option.isSome_map] at this
theorem dn_in {Q : Value → Shared → Prop} (hu : A.units + 65 < cLine) (I : Inv X pins σ H s) (e : H a = some (DO a o)) (g : GoodD a o xs) (ks : ∀ x ∈ xs, Key8 X.K H x.1 x.2.1) (kb : Key8 X.K H k b) (h : ∀ s', Inv X pins σ H s' → Q (.bool (atE xs k).isSome) s') :
    wpAny (model X.prog X.w) A (compareOp .In (.ref b) (.ref a)) Q E s := by
  obtain ⟨ys, ev, dd⟩ := good_at I e g ks
  refine wpAny_in_heap (room8 hu) (kb.at I) g.sys dd ?_
  rw [← dn_some ev]
  exact h _ (I.tok _)
theorem dn_notIn {Q : Value → Shared → Prop} (hu : A.units + 65 < cLine) (I : Inv X pins σ H s) (e : H a = some (DO a o)) (g : GoodD a o xs) (ks : ∀ x ∈ xs, Key8 X.K H x.1 x.2.1) (kb : Key8 X.K H k b) (h : ∀ s', Inv X pins σ H s' → Q (.bool (!(atE xs k).isSome)) s') :
    wpAny (model X.prog X.w) A (compareOp .NotIn (.ref b) (.ref a)) Q E s := by
  obtain ⟨ys, ev, dd⟩ := good_at I e g ks
  refine PyProof.Rows.wpAny_notIn_heap (room8 hu) (kb.at I) g.sys dd ?_
  rw [← dn_some ev]
  exact h _ (I.tok _)
/-- the dict's object is written -/
theorem dn_write {h' : Heap} {t' : Nat} {o' : Obj} (I : Inv X pins σ H s) (e : H a = some (DO a o)) (hs : Heap.SameBut a s.heap h') (he : h'.get? a = some o') : Inv X pins σ (upd H a (DO a o')) { s with heap := h', toks := t' } :=
  d_write I (by rw [e]; exact True.intro) hs ⟨o', he⟩ (do_ok he)
theorem dn_setItem {Q : Unit → Shared → Prop} (hu : A.units + 65 < cLine) (I : Inv X pins σ H s) (e : H a = some (DO a o)) (g : GoodD a o xs) (ks : ∀ x ∈ xs, Key8 X.K H x.1 x.2.1) (kb : Key8 X.K H k b) (hl : xs.length < sizeLine) (rv : RelV v r)
    (h : ∀ o' s', GoodD a o' (putE xs k b v) → Inv X pins σ (upd H a (DO a o')) s' → Q () s') : wpAny (model X.prog X.w) A (setItem (.ref a) (.ref b) r) Q E s := by
  obtain ⟨ys, ev, dd⟩ := good_at I e g ks
  have hz : ys.length ≤ sizeLine := by rw [← Paired.length ev]; exact g.len
  refine wpAny_setItem_heap (hsz := hz) (room8 hu) (kb.at I) dd fun h' dd' hs => ?_
  obtain ⟨o', h1, h2⟩ := good_of dd' (ev_put ev rv) (by have := putE_len xs k b v; omega) g.sys (fun x hx => by
    rcases putE_mem hx with ⟨y, hy, e1, _⟩ | rfl
    · rw [e1]; exact g.pl y hy
    · exact KIs.plain _ kb.1)
  exact h o' _ h2 (dn_write I e hs h1)
/-- d.get(k, x) -/
theorem dn_get2 {x : V} {Q : Value → Shared → Prop} (hu : A.units + 65 < cLine) (I : Inv X pins σ H s) (e : H a = some (DO a o)) (g : GoodD a o xs) (ks : ∀ x ∈ xs, Key8 X.K H x.1 x.2.1) (kb : Key8 X.K H k b) (rx : RelV x r) (h : ∀ w' s', Inv X pins σ H s' → RelV ((atE xs k).getD x) w' → Q w' s') :
    wpAny (model X.prog X.w) A (call (.builtin "dict.get") [.ref a, .ref b, r]) Q E s := by
  obtain ⟨ys, ev, dd⟩ := good_at I e g ks
  exact call_meetsIn PySem.F.slot_dict_get dd.typeIs PySem.F.entry_dict_get (PySem.F.args_dict_get_3 _ _ _) (meetsH_dict_get_default (nestedKind X.prog X.w) a b g.sys r) ⟨room8 hu, k, ys, kb.at I, dd, h _ _ (I.tok _) ((ev_at ev).getD rx)⟩
/-- d.setdefault(k, x) -/
theorem dn_setdef {x : V} {Q : Value → Shared → Prop} (hu : A.units + 65 < cLine) (I : Inv X pins σ H s) (e : H a = some (DO a o)) (g : GoodD a o xs) (ks : ∀ x ∈ xs, Key8 X.K H x.1 x.2.1) (kb : Key8 X.K H k b) (hl : xs.length < sizeLine) (rx : RelV x r)
    (h1 : ∀ v w' s', atE xs k = some v → Inv X pins σ H s' → RelV v w' → Q w' s')
    (h2 : atE xs k = none → ∀ o' s', GoodD a o' (putE xs k b x) → Inv X pins σ (upd H a (DO a o')) s' → Q r s') :
    wpAny (model X.prog X.w) A (call (.builtin "dict.setdefault") [.ref a, .ref b, r]) Q E s := by
  obtain ⟨ys, ev, dd⟩ := good_at I e g ks
  have hz : ys.length ≤ sizeLine := by rw [← Paired.length ev]; exact g.len
  refine call_setdefault_heap (hsz := hz) (room8 hu) (kb.at I) g.sys dd (fun p hp => ?_) fun hn h' dd' hs => ?_
  · have := ev_at (k := k) ev
    rw [hp] at this
    cases ea : atE xs k with
    | none => rw [ea] at this; exact this.elim
    | some v => rw [ea] at this; exact h1 v p.2 _ ea (I.tok _) this
  · have ea : atE xs k = none := by
      have := dn_some (k := k) ev
      rw [hn] at this
      cases e' : atE xs k with
      | none => rfl
      | some v => rw [e'] at this; cases this
    obtain ⟨o', g1, g2⟩ := good_of dd' (ev_put ev rx) (by have := putE_len xs k b x; omega) g.sys (fun z hx => by
      rcases putE_mem hx with ⟨y, hy, e1, _⟩ | rfl
      · rw [e1]; exact g.pl y hy
      · exact KIs.plain _ kb.1)
    exact h2 ea o' _ g2 (dn_write I e hs g1)
theorem dn_raw (I : Inv X pins σ H s) (e : H a = some (DO a o)) (g : GoodD a o xs) : ∃ es ep, o.data = .dict es ep ∧ s.heap.DictRaw a es ep ∧ es.size = xs.length ∧ ∀ (i : Nat) (x : KEnt), xs[i]? = some x → ∃ en, es[i]? = some en ∧ en.key = .ref x.2.1 ∧ RelV x.2.2 en.val := by
  obtain ⟨es, ep, ys, h1, h2, h3⟩ := g.ents
  have hl : ys.length = xs.length := (Paired.length h2).symm
  refine ⟨es, ep, h1, ⟨o, do_at I e, g.ex, h1⟩, by rw [← Array.length_toList, h3, List.length_map, hl], fun i x hx => ?_⟩
  obtain ⟨y, hy, e1, e2, e3⟩ := ev_get h2 hx
  refine ⟨⟨hash0 y.1, .ref y.2.1, y.2.2⟩, ?_, by rw [e2], e3⟩
  rw [← Array.getElem?_toList, h3, List.getElem?_map, hy]; rfl
theorem dn_len {Q : Value → Shared → Prop} (I : Inv X pins σ H s) (e : H a = some (DO a o)) (g : GoodD a o xs) (h : ∀ t s', Inv X pins σ H s' → Q (.int xs.length t) s') : wpAny (model X.prog X.w) A (call (.builtin "len") [.ref a]) Q E s := by
  obtain ⟨es, ep, h1, h2, h3, _⟩ := dn_raw I e g
  have hz := g.len
  refine PyProof.Rows.call_len_slot (n := xs.length) h2.typeIs PySem.F.slot_dict_len (fun Q' hq => call_len_raw g.sys h2 (by rw [h3]; exact hq)) (by omega) (by rw [sizeLine_eq] at hz; omega) (h _ _ (I.tok _))
end

/-! ### rules by values -/
/-- a dict at a, read -/
def DnAt (K : PySem.W.Frag) (H : Hp) (a : Addr) (xs : List KEnt) : Prop := ∃ o, H a = some (DO a o) ∧ GoodD a o xs ∧ ∀ x ∈ xs, Key8 K H x.1 x.2.1
def rIxN (K : PySem.W.Frag) : R2 := fun x y H Q => ∃ a b xs k v, x = .ref a ∧ y = .ref b ∧ DnAt K H a xs ∧ Key8 K H k b ∧ atE xs k = some v ∧ Q v H
def rInN (K : PySem.W.Frag) (neg : Bool) : R2 := fun y x H Q => ∃ a b xs k, x = .ref a ∧ y = .ref b ∧ DnAt K H a xs ∧ Key8 K H k b ∧ Q (.bl (if neg then !(atE xs k).isSome else (atE xs k).isSome)) H
section
variable {X : Cx}
theorem ix_dn (hu : X.A.units + 65 < cLine) : IxR X (rIxN X.K) := by
  intro value slice pins s σ H x y v u Q I rx ry h hs
  obtain ⟨a, b, xs, k, z, rfl, rfl, ⟨o, e, g, ks⟩, kb, l, q⟩ := h
  obtain rfl : v = Value.ref a := rx
  obtain rfl : u = Value.ref b := ry
  obtain ⟨es, ep, _, hr, _⟩ := dn_raw I e g
  exact PyProof.Rows.tail_any hr.typeIs PySem.F.slot_dict_getitem.lookup (dn_getItem hu I e g ks kb l fun w' s' I' r' => ⟨z, H, I', r', q⟩) hs
theorem op_inN (hu : X.A.units + 65 < cLine) : OpR X (compareOp .In) (rInN X.K false) := by
  intro pins s σ H x y v u Q I rx ry h
  obtain ⟨a, b, xs, k, rfl, rfl, ⟨o, e, g, ks⟩, kb, q⟩ := h
  obtain rfl : u = Value.ref a := ry
  obtain rfl : v = Value.ref b := rx
  exact dn_in hu I e g ks kb fun s' I' => ⟨.bl _, H, I', rfl, q⟩
theorem op_notInN (hu : X.A.units + 65 < cLine) : OpR X (compareOp .NotIn) (rInN X.K true) := by
  intro pins s σ H x y v u Q I rx ry h
  obtain ⟨a, b, xs, k, rfl, rfl, ⟨o, e, g, ks⟩, kb, q⟩ := h
  obtain rfl : u = Value.ref a := ry
  obtain rfl : v = Value.ref b := rx
  exact dn_notIn hu I e g ks kb fun s' I' => ⟨.bl _, H, I', rfl, q⟩
theorem call_lenN : CallR X (.builtin "len") (fun xs H Q => ∃ p ys, xs = [.ref p] ∧ DnAt X.K H p ys ∧ Q (.int ys.length) H) := by
  intro pins s σ H xs us Q I rs h
  obtain ⟨p, ys, rfl, ⟨o, e, g, ks⟩, q⟩ := h
  cases rs with
  | cons r1 r2 =>
    cases r2
    obtain rfl := (show _ = Value.ref p from r1)
    exact dn_len I e g fun t s' I' => ⟨.int ys.length, H, I', ⟨t, rfl⟩, q⟩

/-! ### displays -/
def ob0 : Obj := { cls := .type "dict", data := .dict #[] }
theorem good0 {a : Addr} (h : (a == sysModules) = false) : GoodD a ob0 [] := ⟨Nat.zero_le _, h, ⟨rfl, rfl, rfl⟩, ⟨#[], 0, [], rfl, .nil, rfl⟩, List.nodup_nil, fun _ h => nomatch h⟩
def tDn0 : TE := fun _ H Q => ∀ p, H p = none → (p == sysModules) = false → Q (.ref p) (upd H p (DO p ob0))
theorem pe_dn0 {pos : Pos} : PE X (.Dict [] [] pos) tDn0 := ⟨fun pins s σ H Q I h =>
  wpAny_Dict_empty ⟨.ref s.heap.objs.size, _, I.laid (a := s.heap.objs.size) (o := DO s.heap.objs.size ob0) (t' := s.toks) (fun _ _ q => Heap.get?_push_of_some _ q) (Nat.le_refl _) (do_ok (Heap.get?_push_size _ rfl)), rfl,
    h _ (I.hok.fresh (Nat.le_refl _)) (beq_eq_false_iff_ne.mpr (Ne.symm (Nat.ne_of_lt I.big)))⟩⟩
/-- {k: v}, a tuple's key; the new dict stands empty while they are made -/
def tDn1 (K : PySem.W.Frag) (tk tv : TE) : TE := fun σ H Q => ∀ p, H p = none → (p == sysModules) = false → tk σ (upd H p (DO p ob0)) fun y H1 => tv σ H1 fun v H2 => H2 p = some (DO p ob0) ∧ ∃ b k, y = .ref b ∧ Key8 K H2 k b ∧ ∀ o', GoodD p o' [(k, b, v)] → Q (.ref p) (upd H2 p (DO p o'))
theorem pe_dn1 {pos : Pos} {k v : Expr} {tk tv : TE} (hu : X.A.units + 65 < cLine) (hk : PE X k tk) (hv : PE X v tv) : PE X (.Dict [some k] [v] pos) (tDn1 X.K tk tv) := by
  refine ⟨fun pins s σ H Q I q => ?_⟩
  have hn := I.hok.fresh (Nat.le_refl s.heap.objs.size)
  have hs : (s.heap.objs.size == sysModules) = false := beq_eq_false_iff_ne.mpr (Ne.symm (Nat.ne_of_lt I.big))
  have I1 := I.laid (a := s.heap.objs.size) (o := DO s.heap.objs.size ob0) (h' := s.heap.push ob0) (t' := s.toks) (fun _ _ q => Heap.get?_push_of_some _ q) (Nat.le_refl _) (do_ok (Heap.get?_push_size _ rfl))
  have hsh : (evalEachOpt [some k] X.env).zip ((evalEach [v] X.env).map fun v => do let x ← v; standAt pos; pure x) = [(eval k X.env, do let x ← eval v X.env; standAt pos; pure x)].map fun p => (some p.1, p.2) := rfl
  rw [arm_eval_Dict, hsh, dictDisplay_pairs _ (by simp) (by simp)]
  refine wpAny_bind (wpAny_standAt (wpAny_bind (wpAny_subDictH (knd := nestedKind X.prog X.w) (Q := fun d s' => wpAny (model X.prog X.w) X.A (pure (Value.ref d)) (EP X pins σ Q) X.xe s') (room8' hu) (by simp) ?_)))
  refine evalPairs_cons (thn (hk.run pins _ σ _ _ I1 (q _ hn hs)) fun u s1 ⟨y, H1, J1, ry, q1⟩ => wpAny_bind (thn (hv.run pins s1 σ H1 _ J1 q1) fun z s2 ⟨w, H2, J2, rw', e, b, kk, ey, kb, q2⟩ => wpAny_bind (wpAny_standAt (wpAny_pure (evalPairs_nil ?_)))))
  subst ey
  obtain rfl : u = Value.ref b := ry
  obtain ⟨ys, ev, dd⟩ := good_at (xs := []) J2 e (good0 hs) (fun _ h => nomatch h)
  cases ev
  refine ⟨[(kk, b, z)], ⟨rfl, rfl, kb.at J2, trivial⟩, dd, fun h' tk' dd' hsame => wpAny_pure ?_⟩
  have dd2 : h'.DictOfH (nestedKind X.prog X.w) s.heap.objs.size [(kk, b, z)] := dd'
  obtain ⟨o', g1, g2⟩ := good_of (xs := [(kk, b, w)]) dd2 (.cons ⟨rfl, rfl, rw'⟩ .nil) (by rw [sizeLine_eq]; show 1 ≤ 16777216; decide) hs (fun x hx => by
    have : x = (kk, b, w) := by simpa using hx
    subst this
    exact KIs.plain _ kb.1)
  exact ⟨.ref s.heap.objs.size, _, dn_write J2 e hsame g1, rfl, q2 o' g2⟩

/-! ### for k in d -/
def ItN (d : Addr) (o : Obj) (xs : List KEnt) : It :=
  ⟨fun i H => H d = some (DO d o) ∧ i < xs.length, fun i H x H' => H' = H ∧ ∃ e : KEnt, xs[i]? = some e ∧ x = .ref e.2.1, fun i H => H d = some (DO d o) ∧ xs.length ≤ i⟩
theorem turn_keysN {P : Program} {w : World} {K : PySem.W.Frag} {tg : Expr} {d : Addr} {o : Obj} {es : Array DictEntry} {ep : Nat} {xs : List KEnt} (it : Addr) (hod : o.data = .dict es ep) (g : GoodD d o xs) : Turn P w K tg (ItN d o xs) [it] it (fun i h => h.IsKeyIter it d i xs.length ep) where
  mem := by simp
  obj := fun i h st b hb => by
    have e : b = it := by simpa using hb
    subst e
    obtain ⟨oi, e, c, dd⟩ := st
    exact ⟨oi, e, fun v z => by rw [dd] at z; cases z⟩
  keep := fun i h h' st k => st.at fun oi e => k it (by simp) oi e
  item := by
    intro X hP hw hK hc i pins s σ H E I hf st hg
    subst hP hw hK
    obtain ⟨hd, hi⟩ := hg
    obtain ⟨f0, f1, f2, f3, f4, f5⟩ := hf it (by simp)
    obtain ⟨es', ep', hdt, hr, hsz, ent⟩ := dn_raw I hd g
    obtain ⟨rfl, rfl⟩ := dict_ep hod hdt
    obtain ⟨x, hx⟩ : ∃ p, xs[i]? = some p := ⟨xs[i], List.getElem?_eq_getElem hi⟩
    obtain ⟨en, hen, hkey, hv⟩ := ent i x hx
    refine next_key_item st (do_at I hd) hdt hsz hen fun h' st' sb => ?_
    have I1 : Inv X pins σ H { s with heap := h' } := I.turned (t' := s.toks) (fun b ob hb e => (sb.2 b hb).trans e) f0 f1 f3 f4 f5
    obtain ⟨oi, e, c, dd⟩ := id st'
    exact ⟨en.key, rfl, go_of (s := { s with heap := h' }) e c dd (by decide) ⟨.ref x.2.1, H, I1, hkey, ⟨rfl, x, hx, rfl⟩, st', fun b hb => (hf b hb).1⟩⟩
  done := by
    intro X hP hw hK hc i pins s σ H E I hf st hg
    subst hP hw hK
    obtain ⟨hd, hi⟩ := hg
    obtain ⟨f0, f1, f2, f3, f4, f5⟩ := hf it (by simp)
    obtain ⟨es', ep', hdt, hr, hsz, ent⟩ := dn_raw I hd g
    obtain ⟨rfl, rfl⟩ := dict_ep hod hdt
    exact next_key_end (I.ok.hd hc) st (do_at I hd) hdt hsz hi fun h' eb => ⟨rfl, I.turned (t' := s.toks) (fun b ob hb e => eb b ob hb e) f0 f1 f3 f4 f5⟩
  self := fun A i s Q E st h => by
    refine wpAny_pyIter_slot st.typeIs F.slot_dict_keyiterator_iter (wpAny_call_entry F.slot_dict_keyiterator_iter st.typeIs F.entry_dict_keyiterator_iter ?_ (F.args_dict_keyiterator_iter_1 _))
    show wpAny _ _ (ret (.ref it)) _ _ s
    exact wpAny_pure ⟨_, rfl, "dict_keyiterator", _, st.typeIs, F.slot_dict_keyiterator_next.lookup, h⟩
def iKeysN (td : TE) : TI := fun σ H R => td σ H fun x H1 => ∃ d o xs, x = .ref d ∧ H1 d = some (DO d o) ∧ GoodD d o xs ∧ R (ItN d o xs) H1
theorem pi_keysN {tg e : Expr} {td : TE} (he : PE X e td) : PI X tg e (iKeysN td) := by
  refine ⟨fun pins s σ H R I h => ?_⟩
  refine thn (he.run pins s σ H _ I h) fun u s1 ⟨x, H1, I1, rx, d, o, xs, ex, hd, g, q⟩ => ?_
  subst ex
  obtain rfl : u = Value.ref d := rx
  obtain ⟨es, ep, hdt, hr, hsz, ent⟩ := dn_raw I1 hd g
  refine iter_keys g.sys (do_at I1 hd) g.ex hdt (pi_one (tk := s1.toks) I1 _ (turn_keysN _ hdt g) ⟨_, Heap.get?_push_size _ rfl, rfl, ?_⟩ q)
  rw [hsz] <;> rfl

/-! ### d.get(k, x), d[k] = v -/
def tDgN (K : PySem.W.Frag) (td ty tx : TE) : TE := fun σ H Q => td σ H fun x H1 => ∃ a o xs, x = .ref a ∧ H1 a = some (DO a o) ∧ GoodD a o xs ∧ ty σ H1 fun y H2 => tx σ H2 fun z H3 => ∃ b k ys, y = .ref b ∧ DnAt K H3 a ys ∧ Key8 K H3 k b ∧ Q ((atE ys k).getD z) H3
theorem pe_dgN {o e f : Expr} {apos cpos : Pos} {td ty tx : TE} (hu : X.A.units + 65 < cLine) (ho : PE X o td) (he : PE X e ty) (hf : PE X f tx) (m : M2 X o "get" apos e f cpos) : PE X (.Call (.Attribute o "get" apos) [e, f] [] cpos) (tDgN X.K td ty tx) := by
  refine ⟨fun pins s σ H Q I h => ?_⟩
  refine wpAny_Call_method m.base m.few m.line PySem.F.plainAttrs_dict PySem.F.slot_dict_get PySem.F.type_dict_get (thn (ho.run pins s σ H _ I h) fun u s1 ⟨x, H1, I1, rx, a, ob, xs, ex, d, g, q1⟩ => ?_)
  subst ex
  obtain rfl : u = Value.ref a := rx
  refine ⟨⟨ob, do_at I1 d, g.ex.1⟩, fun b q => ?_, ?_⟩
  · cases q
    exact ⟨ob, do_at I1 d, g.ex.2.1⟩
  rw [m.trees]
  refine Calls.callWith_builtin rfl (Calls.evalArgs_plain (Calls.spliced_cons (thn (he.run pins s1 σ H1 _ I1 q1) fun iv s2 ⟨y, H2, I2, ry, q2⟩ =>
    Calls.spliced_cons (thn (hf.run pins s2 σ H2 _ I2 q2) fun fv s3 ⟨z, H3, I3, rz, b, k, ys, ey, ⟨o3, e3, g3, ks3⟩, kb, q3⟩ => Calls.spliced_nil ?_))))
  subst ey
  obtain rfl : iv = Value.ref b := ry
  exact dn_get2 hu I3 e3 g3 ks3 kb rz fun w' s4 I4 rw' => ⟨_, H3, I4, rw', q3⟩
def rSetN (K : PySem.W.Frag) : V → V → V → Hp → (Hp → Prop) → Prop := fun o i v H Q => ∃ a b k xs ob, o = .ref a ∧ i = .ref b ∧ H a = some (DO a ob) ∧ GoodD a ob xs ∧ (∀ x ∈ xs, Key8 K H x.1 x.2.1) ∧ Key8 K H k b ∧ xs.length < sizeLine ∧ ∀ o', GoodD a o' (putE xs k b v) → Q (upd H a (DO a o'))
theorem set_dn (hu : X.A.units + 65 < cLine) : PSet X (rSetN X.K) := by
  intro pins s σ H o i v ov iv u Q I ro ri rv h
  obtain ⟨a, b, k, xs, ob, rfl, rfl, e, g, ks, kb, hl, q⟩ := h
  obtain rfl : ov = Value.ref a := ro
  obtain rfl : iv = Value.ref b := ri
  exact dn_setItem hu I e g ks kb hl rv fun o' s' g' I' => ⟨_, I', q o' g'⟩
theorem PSet.or {r r' : V → V → V → Hp → (Hp → Prop) → Prop} (h : PSet X r) (h' : PSet X r') : PSet X (fun o i v H Q => r o i v H Q ∨ r' o i v H Q) := by
  intro pins s σ H o i v ov iv u Q I ro ri rv q
  rcases q with q | q
  · exact h pins s σ H o i v ov iv u Q I ro ri rv q
  · exact h' pins s σ H o i v ov iv u Q I ro ri rv q
end
end Tk
set_option linter.all false
set_option Elab.async false
set_option maxRecDepth 100000
/-! TkRel: how values stand in the abstract heap. -/
namespace Tk
open PySem L2

/-- a tuple of the module's own -/
def KTup (K : PySem.W.Frag) (a : Addr) (xs : List V) : Prop :=
  ∃ (o : Obj) (its : Array Value) (n : Nat), K.lookup a = some o ∧ o.cls = .type "tuple" ∧ o.data = .seq its n ∧ its.size ≤ sizeLine ∧ Vals xs its.toList

mutual
/-- v stands for d in H, by lists, dicts and tuples outside A -/
def Dat (K : PySem.W.Frag) (H : Hp) (A : Addr → Prop) : V → D → Prop
  | v, .none => v = .non
  | v, .bool b => v = .bl b
  | v, .int i => v = .int i
  | v, .str x => v = .str x
  | v, .list ds => ∃ a xs, v = .ref a ∧ H a = some (.lst xs) ∧ ¬ A a ∧ DatL K H A xs ds
  | v, .tuple ds => ∃ a xs, v = .ref a ∧ ((H a = some (.tup xs) ∧ ¬ A a) ∨ KTup K a xs) ∧ DatL K H A xs ds
  | v, .dict kvs => ∃ a o xs, v = .ref a ∧ H a = some (DO a o) ∧ ¬ A a ∧ GoodD a o xs ∧ DatP K H A xs kvs
def DatL (K : PySem.W.Frag) (H : Hp) (A : Addr → Prop) : List V → List D → Prop
  | [], [] => True
  | x :: xs, d :: ds => Dat K H A x d ∧ DatL K H A xs ds
  | _, _ => False
def DatP (K : PySem.W.Frag) (H : Hp) (A : Addr → Prop) : List KEnt → List (D × D) → Prop
  | [], [] => True
  | x :: xs, (k, d) :: kvs => keyOf k = some x.1 ∧ x.1.depth ≤ 8 ∧ Dat K H A (.ref x.2.1) k ∧ Dat K H A x.2.2 d ∧ DatP K H A xs kvs
  | _, _ => False
end
/-- the thing itself outside A, its items outside B -/
def Dat2 (K : PySem.W.Frag) (H : Hp) (A B : Addr → Prop) : V → D → Prop
  | v, .list ds => ∃ a xs, v = .ref a ∧ H a = some (.lst xs) ∧ ¬ A a ∧ DatL K H B xs ds
  | v, .tuple ds => ∃ a xs, v = .ref a ∧ ((H a = some (.tup xs) ∧ ¬ A a) ∨ KTup K a xs) ∧ DatL K H B xs ds
  | v, .dict kvs => ∃ a o xs, v = .ref a ∧ H a = some (DO a o) ∧ ¬ A a ∧ GoodD a o xs ∧ DatP K H B xs kvs
  | v, d => Dat K H A v d

section
variable {K : PySem.W.Frag} {H H' : Hp} {A B C : Addr → Prop}
def Seq : HO → Prop
  | .ext _ => True
  | .lst _ => True
  | .tup _ => True
  | _ => False
mutual
theorem Dat.mono (h : ∀ a o, H a = some o → Seq o → ¬ A a → H' a = some o ∧ ¬ B a) : ∀ {v : V} (d : D), Dat K H A v d → Dat K H' B v d
  | v, .none, q => by simpa [Dat] using q
  | v, .bool _, q => by simpa [Dat] using q
  | v, .int _, q => by simpa [Dat] using q
  | v, .str _, q => by simpa [Dat] using q
  | v, .list ds, q => by
    simp only [Dat] at q ⊢
    obtain ⟨a, xs, rfl, e, n, l⟩ := q
    obtain ⟨e', n'⟩ := h a _ e trivial n
    exact ⟨a, xs, rfl, e', n', DatL.mono h ds l⟩
  | v, .tuple ds, q => by
    simp only [Dat] at q ⊢
    obtain ⟨a, xs, rfl, e, l⟩ := q
    refine ⟨a, xs, rfl, ?_, DatL.mono h ds l⟩
    rcases e with ⟨e, n⟩ | e
    · exact .inl (h a _ e trivial n)
    · exact .inr e
  | v, .dict kvs, q => by
    simp only [Dat] at q ⊢
    obtain ⟨a, o, xs, rfl, e, n, g, l⟩ := q
    obtain ⟨e', n'⟩ := h a _ e trivial n
    exact ⟨a, o, xs, rfl, e', n', g, DatP.mono h kvs l⟩
theorem DatL.mono (h : ∀ a o, H a = some o → Seq o → ¬ A a → H' a = some o ∧ ¬ B a) : ∀ {xs : List V} (ds : List D), DatL K H A xs ds → DatL K H' B xs ds
  | [], [], _ => by simp [DatL]
  | [], _ :: _, q => by simp [DatL] at q
  | _ :: _, [], q => by simp [DatL] at q
  | x :: xs, d :: ds, q => by
    simp only [DatL] at q ⊢
    exact ⟨Dat.mono h d q.1, DatL.mono h ds q.2⟩
theorem DatP.mono (h : ∀ a o, H a = some o → Seq o → ¬ A a → H' a = some o ∧ ¬ B a) : ∀ {xs : List KEnt} (ds : List (D × D)), DatP K H A xs ds → DatP K H' B xs ds
  | [], [], _ => by simp [DatP]
  | [], _ :: _, q => by simp [DatP] at q
  | _ :: _, [], q => by simp [DatP] at q
  | x :: xs, (k, d) :: ds, q => by
    simp only [DatP] at q ⊢
    exact ⟨q.1, q.2.1, Dat.mono h k q.2.2.1, Dat.mono h d q.2.2.2.1, DatP.mono h ds q.2.2.2.2⟩
end
theorem Dat.to2 : ∀ {v : V} {d : D}, Dat K H A v d → Dat2 K H A A v d
  | v, .list ds, q => by simpa [Dat, Dat2] using q
  | v, .tuple ds, q => by simpa [Dat, Dat2] using q
  | v, .none, q => q
  | v, .bool _, q => q
  | v, .int _, q => q
  | v, .str _, q => q
  | v, .dict _, q => by simpa [Dat, Dat2] using q
theorem Dat2.to (h : ∀ a, A a → B a) : ∀ {v : V} {d : D}, Dat2 K H A B v d → Dat K H A v d
  | v, .list ds, q => by
    simp only [Dat2, Dat] at q ⊢
    obtain ⟨a, xs, e, e2, n, l⟩ := q
    exact ⟨a, xs, e, e2, n, DatL.mono (fun b o hb _ nb => ⟨hb, fun z => nb (h b z)⟩) ds l⟩
  | v, .tuple ds, q => by
    simp only [Dat2, Dat] at q ⊢
    obtain ⟨a, xs, e, e2, l⟩ := q
    exact ⟨a, xs, e, e2, DatL.mono (fun b o hb _ nb => ⟨hb, fun z => nb (h b z)⟩) ds l⟩
  | v, .none, q => q
  | v, .bool _, q => q
  | v, .int _, q => q
  | v, .str _, q => q
  | v, .dict kvs, q => by
    simp only [Dat2, Dat] at q ⊢
    obtain ⟨a, o, xs, e, e2, n, g, l⟩ := q
    exact ⟨a, o, xs, e, e2, n, g, DatP.mono (fun b o hb _ nb => ⟨hb, fun z => nb (h b z)⟩) kvs l⟩
theorem Dat2.mono {A' B' : Addr → Prop} (h : ∀ a o, H a = some o → Seq o → ¬ A a → H' a = some o ∧ ¬ A' a) (h2 : ∀ a o, H a = some o → Seq o → ¬ B a → H' a = some o ∧ ¬ B' a) : ∀ {v : V} {d : D}, Dat2 K H A B v d → Dat2 K H' A' B' v d
  | v, .list ds, q => by
    simp only [Dat2] at q ⊢
    obtain ⟨a, xs, e, e2, n, l⟩ := q
    obtain ⟨e', n'⟩ := h a _ e2 trivial n
    exact ⟨a, xs, e, e', n', DatL.mono h2 ds l⟩
  | v, .tuple ds, q => by
    simp only [Dat2] at q ⊢
    obtain ⟨a, xs, e, e2, l⟩ := q
    refine ⟨a, xs, e, ?_, DatL.mono h2 ds l⟩
    rcases e2 with ⟨e2, n⟩ | e2
    · exact .inl (h a _ e2 trivial n)
    · exact .inr e2
  | v, .none, q => by simpa [Dat2, Dat] using q
  | v, .bool _, q => by simpa [Dat2, Dat] using q
  | v, .int _, q => by simpa [Dat2, Dat] using q
  | v, .str _, q => by simpa [Dat2, Dat] using q
  | v, .dict kvs, q => by
    simp only [Dat2] at q ⊢
    obtain ⟨a, o, xs, e, e2, n, g, l⟩ := q
    obtain ⟨e', n'⟩ := h a _ e2 trivial n
    exact ⟨a, o, xs, e, e', n', g, DatP.mono h2 kvs l⟩
theorem DatL.length : ∀ {xs : List V} {ds : List D}, DatL K H A xs ds → xs.length = ds.length
  | [], [], _ => rfl
  | [], _ :: _, q => by simp [DatL] at q
  | _ :: _, [], q => by simp [DatL] at q
  | x :: xs, d :: ds, q => by
    simp only [DatL] at q
    simp [DatL.length q.2]
theorem DatL.get : ∀ {xs : List V} {ds : List D} {i : Nat} {d : D}, DatL K H A xs ds → ds[i]? = some d → ∃ v, xs[i]? = some v ∧ Dat K H A v d
  | [], [], i, d, _, e => by simp at e
  | [], _ :: _, _, _, q, _ => by simp [DatL] at q
  | _ :: _, [], _, _, q, _ => by simp [DatL] at q
  | x :: xs, y :: ds, 0, d, q, e => by
    simp only [DatL] at q
    simp at e
    subst e
    exact ⟨x, by simp, q.1⟩
  | x :: xs, y :: ds, i + 1, d, q, e => by
    simp only [DatL] at q
    obtain ⟨v, e1, e2⟩ := DatL.get (i := i) (d := d) q.2 (by simpa using e)
    exact ⟨v, by simpa using e1, e2⟩
theorem DatL.getV : ∀ {xs : List V} {ds : List D} {i : Nat} {v : V}, DatL K H A xs ds → xs[i]? = some v → ∃ d, ds[i]? = some d ∧ Dat K H A v d
  | [], [], i, d, _, e => by simp at e
  | [], _ :: _, _, _, q, _ => by simp [DatL] at q
  | _ :: _, [], _, _, q, _ => by simp [DatL] at q
  | x :: xs, y :: ds, 0, d, q, e => by
    simp only [DatL] at q
    simp at e
    subst e
    exact ⟨y, by simp, q.1⟩
  | x :: xs, y :: ds, i + 1, d, q, e => by
    simp only [DatL] at q
    obtain ⟨v, e1, e2⟩ := DatL.getV (i := i) (v := d) q.2 (by simpa using e)
    exact ⟨v, by simpa using e1, e2⟩
theorem DatL.append : ∀ {xs ys : List V} {ds es : List D}, DatL K H A xs ds → DatL K H A ys es → DatL K H A (xs ++ ys) (ds ++ es)
  | [], _, [], _, _, q => q
  | [], _, _ :: _, _, q, _ => by simp [DatL] at q
  | _ :: _, _, [], _, q, _ => by simp [DatL] at q
  | x :: xs, ys, d :: ds, es, q, r => by
    simp only [DatL, List.cons_append] at q ⊢
    exact ⟨q.1, DatL.append q.2 r⟩
theorem DatL.nil : DatL K H A [] [] := by simp [DatL]
theorem DatL.cons {x : V} {xs : List V} {d : D} {ds : List D} (h : Dat K H A x d) (h2 : DatL K H A xs ds) : DatL K H A (x :: xs) (d :: ds) := by
  simp only [DatL]; exact ⟨h, h2⟩
theorem DatL.one {x : V} {d : D} (h : Dat K H A x d) : DatL K H A [x] [d] := DatL.cons h DatL.nil
theorem DatL.drop : ∀ {xs : List V} {ds : List D} (n : Nat), DatL K H A xs ds → DatL K H A (xs.drop n) (ds.drop n)
  | xs, ds, 0, q => by simpa using q
  | [], [], n + 1, q => by simpa using q
  | [], _ :: _, _, q => by simp [DatL] at q
  | _ :: _, [], _, q => by simp [DatL] at q
  | x :: xs, d :: ds, n + 1, q => by
    simp only [DatL] at q
    simpa using DatL.drop n q.2
theorem DatL.take : ∀ {xs : List V} {ds : List D} (n : Nat), DatL K H A xs ds → DatL K H A (xs.take n) (ds.take n)
  | xs, ds, 0, q => by simp [DatL]
  | [], [], n + 1, q => by simpa using q
  | [], _ :: _, _, q => by simp [DatL] at q
  | _ :: _, [], _, q => by simp [DatL] at q
  | x :: xs, d :: ds, n + 1, q => by
    simp only [DatL] at q
    simp only [List.take_succ_cons]
    exact DatL.cons q.1 (DatL.take n q.2)
theorem DatL.set {v : V} {d : D} (h : Dat K H A v d) : ∀ {xs : List V} {ds : List D} (n : Nat), DatL K H A xs ds → DatL K H A (xs.set n v) (ds.set n d)
  | [], [], n, q => by simpa using q
  | [], _ :: _, _, q => by simp [DatL] at q
  | _ :: _, [], _, q => by simp [DatL] at q
  | x :: xs, e :: ds, 0, q => by
    simp only [DatL] at q
    exact DatL.cons h q.2
  | x :: xs, e :: ds, n + 1, q => by
    simp only [DatL] at q
    exact DatL.cons q.1 (DatL.set h n q.2)
theorem DatL.reverse : ∀ {xs : List V} {ds : List D}, DatL K H A xs ds → DatL K H A xs.reverse ds.reverse
  | [], [], q => by simpa using q
  | [], _ :: _, q => by simp [DatL] at q
  | _ :: _, [], q => by simp [DatL] at q
  | x :: xs, d :: ds, q => by
    simp only [DatL] at q
    simp only [List.reverse_cons]
    exact DatL.append (DatL.reverse q.2) (DatL.one q.1)
theorem DatL.rep {xs : List V} {ds : List D} (h : DatL K H A xs ds) : ∀ n : Nat, DatL K H A (List.replicate n xs).flatten (List.replicate n ds).flatten
  | 0 => by simp [DatL]
  | n + 1 => by
    simp only [List.replicate_succ, List.flatten_cons]
    exact DatL.append h (DatL.rep h n)
theorem DatL.ints : ∀ {xs : List V} {ds : List D} {ns : List Int}, DatL K H A xs ds → asInts ds = some ns → xs = ns.map V.int
  | [], [], ns, _, e => by simp [asInts] at e; subst e; rfl
  | [], _ :: _, _, q, _ => by simp [DatL] at q
  | _ :: _, [], _, q, _ => by simp [DatL] at q
  | x :: xs, d :: ds, ns, q, e => by
    simp only [DatL] at q
    cases d with
    | int i =>
      simp only [asInts] at e
      cases e2 : asInts ds with
      | none => rw [e2] at e; cases e
      | some is =>
        rw [e2] at e
        simp at e
        subst e
        have := DatL.ints q.2 e2
        have h1 : x = .int i := by simpa [Dat] using q.1
        rw [this, h1]; rfl
    | _ => simp [asInts] at e
theorem DatL.strs : ∀ {xs : List V} {ds : List D} {ns : List Str}, DatL K H A xs ds → asStrs ds = some ns → xs = ns.map V.str
  | [], [], ns, _, e => by simp [asStrs] at e; subst e; rfl
  | [], _ :: _, _, q, _ => by simp [DatL] at q
  | _ :: _, [], _, q, _ => by simp [DatL] at q
  | x :: xs, d :: ds, ns, q, e => by
    simp only [DatL] at q
    cases d with
    | str i =>
      simp only [asStrs] at e
      cases e2 : asStrs ds with
      | none => rw [e2] at e; cases e
      | some is =>
        rw [e2] at e
        simp at e
        subst e
        have := DatL.strs q.2 e2
        have h1 : x = .str i := by simpa [Dat] using q.1
        rw [this, h1]; rfl
    | _ => simp [asStrs] at e
theorem DatL.bools : ∀ {xs : List V} {ds : List D} {ns : List Bool}, DatL K H A xs ds → asBools ds = some ns → xs = ns.map V.bl
  | [], [], ns, _, e => by simp [asBools] at e; subst e; rfl
  | [], _ :: _, _, q, _ => by simp [DatL] at q
  | _ :: _, [], _, q, _ => by simp [DatL] at q
  | x :: xs, d :: ds, ns, q, e => by
    simp only [DatL] at q
    cases d with
    | bool i =>
      simp only [asBools] at e
      cases e2 : asBools ds with
      | none => rw [e2] at e; cases e
      | some is =>
        rw [e2] at e
        simp at e
        subst e
        have := DatL.bools q.2 e2
        have h1 : x = .bl i := by simpa [Dat] using q.1
        rw [this, h1]; rfl
    | _ => simp [asBools] at e
theorem ktSq {a : Addr} {xs : List V} (e : (H a = some (.tup xs) ∧ ¬ A a) ∨ KTup K a xs) : SqT K H a xs := by
  rcases e with ⟨e, _⟩ | e
  · exact SqT.of e
  · exact .inr e
/-! ### the layer's own data -/
mutual
theorem Dat.dp : ∀ {v : V} (d : D), d.canLay0 = true → Dat K H A v d → Dp K H v d
  | v, .none, _, q => by simp only [Dat] at q; subst q; exact .non
  | v, .bool _, _, q => by simp only [Dat] at q; subst q; exact .bl _
  | v, .int _, _, q => by simp only [Dat] at q; subst q; exact .int _
  | v, .str _, _, q => by simp only [Dat] at q; subst q; exact .str _
  | v, .list ds, c, q => by
    simp only [Dat] at q
    obtain ⟨a, xs, rfl, e, n, l⟩ := q
    exact .lst (SqL.of e) (DatL.dp ds (by simpa [PyData.canLay0] using c) l)
  | v, .tuple ds, c, q => by
    simp only [Dat] at q
    obtain ⟨a, xs, rfl, e, l⟩ := q
    exact .tup (ktSq e) (DatL.dp ds (by simpa [PyData.canLay0] using c) l)
  | v, .dict _, c, q => by simp [PyData.canLay0] at c
theorem DatL.dp : ∀ {xs : List V} (ds : List D), PyData.canLayAll0 ds = true → DatL K H A xs ds → DpAll K H xs ds
  | [], [], _, _ => .nil
  | [], _ :: _, _, q => by simp [DatL] at q
  | _ :: _, [], _, q => by simp [DatL] at q
  | x :: xs, d :: ds, c, q => by
    simp only [DatL] at q
    simp only [PyData.canLayAll0, Bool.and_eq_true] at c
    exact .cons (Dat.dp d c.1 q.1) (DatL.dp ds c.2 q.2)
end
theorem Dat.dps {v : V} {d : D} (s : SeqAt.shaped d = true) (q : Dat K H A v d) : Dp K H v d := Dat.dp d (SeqAt.canLay_of_shaped s) q
mutual
/-- a key's tuple -/
theorem Dat.key : ∀ {v : V} (d : D) {k : NestedKey}, keyOf d = some k → Dat K H A v d → KIs K H k v
  | v, .int i, k, h, q => by
    simp only [keyOf, Option.some.injEq] at h; subst h
    simp only [Dat] at q
    simpa [KIs] using q
  | v, .tuple ds, k, h, q => by
    simp only [keyOf] at h
    cases e : keysOf ds with
    | none => rw [e] at h; cases h
    | some ks =>
      rw [e] at h
      injection h with h; subst h
      simp only [Dat] at q
      obtain ⟨a, xs, rfl, e1, l⟩ := q
      simp only [KIs]
      exact ⟨a, xs, rfl, ktSq e1, DatL.keys ds e l⟩
  | v, .none, k, h, q => by simp [keyOf] at h
  | v, .bool _, k, h, q => by simp [keyOf] at h
  | v, .str _, k, h, q => by simp [keyOf] at h
  | v, .list _, k, h, q => by simp [keyOf] at h
  | v, .dict _, k, h, q => by simp [keyOf] at h
theorem DatL.keys : ∀ {vs : List V} (ds : List D) {ks : List NestedKey}, keysOf ds = some ks → DatL K H A vs ds → KIsL K H ks vs
  | [], [], ks, h, q => by simp only [keysOf, Option.some.injEq] at h; subst h; simp [KIsL]
  | [], _ :: _, _, _, q => by simp [DatL] at q
  | _ :: _, [], _, _, q => by simp [DatL] at q
  | v :: vs, d :: ds, ks, h, q => by
    simp only [keysOf] at h
    cases e1 : keyOf d with
    | none => rw [e1] at h; cases h
    | some k =>
      cases e2 : keysOf ds with
      | none => rw [e1, e2] at h; cases h
      | some ks' =>
        rw [e1, e2] at h
        injection h with h; subst h
        simp only [DatL] at q
        simp only [KIsL]
        exact ⟨Dat.key d e1 q.1, DatL.keys ds e2 q.2⟩
end
theorem DatP.length : ∀ {xs : List KEnt} {ds : List (D × D)}, DatP K H A xs ds → xs.length = ds.length
  | [], [], _ => rfl
  | [], _ :: _, q => by simp [DatP] at q
  | _ :: _, [], q => by simp [DatP] at q
  | x :: xs, (k, d) :: ds, q => by
    simp only [DatP] at q
    simp [DatP.length q.2.2.2.2]
theorem DatP.keys8 : ∀ {xs : List KEnt} {ds : List (D × D)}, DatP K H A xs ds → ∀ x ∈ xs, Key8 K H x.1 x.2.1
  | [], [], _, x, h => nomatch h
  | [], _ :: _, q, _, _ => by simp [DatP] at q
  | _ :: _, [], q, _, _ => by simp [DatP] at q
  | y :: xs, (k, d) :: ds, q, x, h => by
    simp only [DatP] at q
    rcases List.mem_cons.mp h with rfl | h
    · exact ⟨Dat.key k q.1 q.2.2.1, q.2.1⟩
    · exact DatP.keys8 q.2.2.2.2 x h
mutual
theorem eqv_key : ∀ (d e : D) {k l : NestedKey}, keyOf d = some k → keyOf e = some l → PyData.eqv d e = decide (k = l)
  | .int i, .int j, k, l, h1, h2 => by
    simp only [keyOf, Option.some.injEq] at h1 h2; subst h1; subst h2
    rw [NestedKey.decide_eq]
    simp [PyData.eqv, NestedKey.beq]
    by_cases e : i = j <;> simp [e]
  | .int i, .tuple es, k, l, h1, h2 => by
    simp only [keyOf, Option.some.injEq] at h1; subst h1
    simp only [keyOf] at h2
    cases e2 : keysOf es with
    | none => rw [e2] at h2; cases h2
    | some ls =>
      rw [e2] at h2; injection h2 with h2; subst h2
      rw [NestedKey.decide_eq]; simp [PyData.eqv, NestedKey.beq]
  | .tuple es, .int i, k, l, h1, h2 => by
    simp only [keyOf, Option.some.injEq] at h2; subst h2
    simp only [keyOf] at h1
    cases e2 : keysOf es with
    | none => rw [e2] at h1; cases h1
    | some ls =>
      rw [e2] at h1; injection h1 with h1; subst h1
      rw [NestedKey.decide_eq]; simp [PyData.eqv, NestedKey.beq]
  | .tuple ds, .tuple es, k, l, h1, h2 => by
    simp only [keyOf] at h1 h2
    cases e1 : keysOf ds with
    | none => rw [e1] at h1; cases h1
    | some ks =>
      cases e2 : keysOf es with
      | none => rw [e2] at h2; cases h2
      | some ls =>
        rw [e1] at h1; rw [e2] at h2
        injection h1 with h1; injection h2 with h2; subst h1; subst h2
        rw [NestedKey.decide_eq]
        simp only [PyData.eqv, NestedKey.beq]
        exact eqv_keys ds es e1 e2
  | .none, _, k, l, h1, _ => by simp [keyOf] at h1
  | .bool _, _, k, l, h1, _ => by simp [keyOf] at h1
  | .str _, _, k, l, h1, _ => by simp [keyOf] at h1
  | .list _, _, k, l, h1, _ => by simp [keyOf] at h1
  | .dict _, _, k, l, h1, _ => by simp [keyOf] at h1
  | .int _, .none, k, l, _, h2 => by simp [keyOf] at h2
  | .int _, .bool _, k, l, _, h2 => by simp [keyOf] at h2
  | .int _, .str _, k, l, _, h2 => by simp [keyOf] at h2
  | .int _, .list _, k, l, _, h2 => by simp [keyOf] at h2
  | .int _, .dict _, k, l, _, h2 => by simp [keyOf] at h2
  | .tuple _, .none, k, l, _, h2 => by simp [keyOf] at h2
  | .tuple _, .bool _, k, l, _, h2 => by simp [keyOf] at h2
  | .tuple _, .str _, k, l, _, h2 => by simp [keyOf] at h2
  | .tuple _, .list _, k, l, _, h2 => by simp [keyOf] at h2
  | .tuple _, .dict _, k, l, _, h2 => by simp [keyOf] at h2
theorem eqv_keys : ∀ (ds es : List D) {ks ls : List NestedKey}, keysOf ds = some ks → keysOf es = some ls → PyData.eqvAll ds es = NestedKey.beqAll ks ls
  | [], [], ks, ls, h1, h2 => by
    simp only [keysOf, Option.some.injEq] at h1 h2; subst h1; subst h2; rfl
  | [], e :: es, ks, ls, h1, h2 => by
    simp only [keysOf, Option.some.injEq] at h1; subst h1
    simp only [keysOf] at h2
    split at h2
    · injection h2 with h2; subst h2; rfl
    · cases h2
  | d :: ds, [], ks, ls, h1, h2 => by
    simp only [keysOf, Option.some.injEq] at h2; subst h2
    simp only [keysOf] at h1
    split at h1
    · injection h1 with h1; subst h1; rfl
    · cases h1
  | d :: ds, e :: es, ks, ls, h1, h2 => by
    simp only [keysOf] at h1 h2
    split at h1
    · rename_i k1 ks1 a1 a2
      split at h2
      · rename_i l1 ls1 b1 b2
        injection h1 with h1; injection h2 with h2; subst h1; subst h2
        simp only [PyData.eqvAll, NestedKey.beqAll]
        rw [eqv_keys ds es a2 b2, eqv_key d e a1 b1, NestedKey.decide_eq]
      · cases h2
    · cases h1
end
theorem isKey_key {d : D} (h : isKey d = true) : ∃ k, keyOf d = some k ∧ k.depth ≤ 8 ∧ ∃ ds, d = .tuple ds := by
  cases d <;> simp [isKey] at h
  rename_i ds
  split at h
  · rename_i k e
    exact ⟨k, e, of_decide_eq_true (by simpa using h), ds, rfl⟩
  · cases h
theorem key8_of {v : V} {d : D} {k : NestedKey} (hd : ∃ ds, d = .tuple ds) (hk : keyOf d = some k) (h8 : k.depth ≤ 8) (q : Dat K H A v d) : ∃ b, v = .ref b ∧ Key8 K H k b := by
  have kk := Dat.key d hk q
  obtain ⟨ds, rfl⟩ := hd
  simp only [Dat] at q
  obtain ⟨b, xs, rfl, _⟩ := q
  exact ⟨b, rfl, kk, h8⟩
theorem DatP.get {d : D} {k : NestedKey} (hk : keyOf d = some k) : ∀ {xs : List KEnt} {ds : List (D × D)}, DatP K H A xs ds → match dget ds d with
    | some e => ∃ v, atE xs k = some v ∧ Dat K H A v e
    | none => atE xs k = none
  | [], [], _ => rfl
  | [], _ :: _, q => by simp [DatP] at q
  | _ :: _, [], q => by simp [DatP] at q
  | x :: xs, (k', d') :: ds, q => by
    simp only [DatP] at q
    simp only [dget]
    rw [eqv_key k' d q.1 hk]
    by_cases e : x.1 = k
    · rw [if_pos (decide_eq_true e)]
      exact ⟨x.2.2, by simp [atE, List.find?_cons, e], q.2.2.2.1⟩
    · rw [if_neg (by simpa using e)]
      have := DatP.get hk q.2.2.2.2
      have e2 : atE (x :: xs) k = atE xs k := by simp [atE, List.find?_cons, e]
      rw [e2]; exact this
theorem DatP.put {d e : D} {k : NestedKey} {b : Addr} {v : V} (hk : keyOf d = some k) (h8 : k.depth ≤ 8) (qb : Dat K H A (.ref b) d) (qv : Dat K H A v e) {xs : List KEnt} {ds : List (D × D)} (nd : (xs.map (·.1)).Nodup) (q : DatP K H A xs ds) : DatP K H A (putE xs k b v) (dput ds d e) := by
  induction xs generalizing ds with
  | nil =>
    cases ds with
    | nil => simp [putE, atE, dput, DatP, hk, h8, qb, qv]
    | cons _ _ => simp [DatP] at q
  | cons x xs ih =>
    cases ds with
    | nil => simp [DatP] at q
    | cons p ds =>
      obtain ⟨k', d'⟩ := p
      simp only [DatP] at q
      rw [List.map_cons, List.nodup_cons] at nd
      simp only [dput]
      rw [eqv_key k' d q.1 hk]
      by_cases e1 : x.1 = k
      · rw [if_pos (decide_eq_true e1)]
        have : putE (x :: xs) k b v = (x.1, x.2.1, v) :: xs := by
          have h1 : (atE (x :: xs) k).isSome = true := by simp [atE, List.find?_cons, e1]
          unfold putE
          rw [if_pos h1, List.map_cons]
          have h2 : xs.map (putAtE k v) = xs := by
            refine (List.map_congr_left fun y hy => ?_).trans (List.map_id xs)
            unfold putAtE
            rw [if_neg]; rfl
            exact fun z => nd.1 (by rw [e1, ← z]; exact List.mem_map_of_mem hy)
          rw [h2]
          simp [putAtE, e1]
        rw [this]
        simp only [DatP]
        exact ⟨q.1, q.2.1, q.2.2.1, qv, q.2.2.2.2⟩
      · rw [if_neg (by simpa using e1)]
        have : putE (x :: xs) k b v = x :: putE xs k b v := by
          have e2 : atE (x :: xs) k = atE xs k := by simp [atE, List.find?_cons, e1]
          unfold putE
          rw [e2]
          split
          · simp [putAtE, e1]
          · rfl
        rw [this]
        simp only [DatP]
        exact ⟨q.1, q.2.1, q.2.2.1, q.2.2.2.1, ih nd.2 q.2.2.2.2⟩
/-- the keys -/
theorem DatP.getK : ∀ {xs : List KEnt} {ds : List (D × D)} {i : Nat} {x : KEnt}, DatP K H A xs ds → xs[i]? = some x → ∃ d, (ds.map (·.1))[i]? = some d ∧ Dat K H A (.ref x.2.1) d
  | [], [], i, x, _, e => by simp at e
  | [], _ :: _, _, _, q, _ => by simp [DatP] at q
  | _ :: _, [], _, _, q, _ => by simp [DatP] at q
  | y :: xs, (k, d) :: ds, 0, x, q, e => by
    simp only [DatP] at q
    simp at e; subst e
    exact ⟨k, by simp, q.2.2.1⟩
  | y :: xs, (k, d) :: ds, i + 1, x, q, e => by
    simp only [DatP] at q
    obtain ⟨d', e1, e2⟩ := DatP.getK (i := i) q.2.2.2.2 (by simpa using e)
    exact ⟨d', by simpa using e1, e2⟩
/-! ### a thing that may be written, by its place -/
/-- the object at a is d's, its items outside A -/
def Obj1 (K : PySem.W.Frag) (H : Hp) (A : Addr → Prop) (a : Addr) : D → Prop
  | .list ds => ∃ xs, H a = some (.lst xs) ∧ DatL K H A xs ds
  | .dict kvs => ∃ o xs, H a = some (DO a o) ∧ GoodD a o xs ∧ DatP K H A xs kvs
  | _ => False
inductive Mu where
  | l (xs : List V)
  | x (φ : Heap → Prop)
def Mu.o : Mu → HO
  | .l xs => .lst xs
  | .x φ => .ext φ
theorem Mu.seq (m : Mu) : Seq m.o := by cases m <;> exact trivial
theorem Obj1.mono {a : Addr} (ha : ∀ o, H a = some o → H' a = some o) (h : ∀ a o, H a = some o → Seq o → ¬ A a → H' a = some o ∧ ¬ B a) : ∀ {d : D}, Obj1 K H A a d → Obj1 K H' B a d
  | .list ds, q => let ⟨xs, e, l⟩ := q; ⟨xs, ha _ e, DatL.mono h ds l⟩
  | .dict kvs, q => let ⟨o, xs, e, g, l⟩ := q; ⟨o, xs, ha _ e, g, DatP.mono h kvs l⟩
  | .none, q => q.elim
  | .bool _, q => q.elim
  | .int _, q => q.elim
  | .str _, q => q.elim
  | .tuple _, q => q.elim
theorem Obj1.mu {a : Addr} : ∀ {d : D}, Obj1 K H A a d → ∃ m : Mu, H a = some m.o
  | .list ds, q => let ⟨xs, e, l⟩ := q; ⟨.l xs, e⟩
  | .dict kvs, q => let ⟨o, xs, e, g, l⟩ := q; ⟨.x _, e⟩
  | .none, q => q.elim
  | .bool _, q => q.elim
  | .int _, q => q.elim
  | .str _, q => q.elim
  | .tuple _, q => q.elim
theorem Obj1.dat {a : Addr} (n : ¬ A a) : ∀ {d : D}, Obj1 K H A a d → Dat K H A (.ref a) d
  | .list ds, q => by
    obtain ⟨xs, e, l⟩ := q
    simp only [Dat]
    exact ⟨a, xs, rfl, e, n, l⟩
  | .dict kvs, q => by
    obtain ⟨o, xs, e, g, l⟩ := q
    simp only [Dat]
    exact ⟨a, o, xs, rfl, e, n, g, l⟩
  | .none, q => q.elim
  | .bool _, q => q.elim
  | .int _, q => q.elim
  | .str _, q => q.elim
  | .tuple _, q => q.elim
theorem Obj1.dat2 {a : Addr} (n : ¬ A a) : ∀ {d : D}, Obj1 K H B a d → Dat2 K H A B (.ref a) d
  | .list ds, q => by
    obtain ⟨xs, e, l⟩ := q
    simp only [Dat2]
    exact ⟨a, xs, rfl, e, n, l⟩
  | .dict kvs, q => by
    obtain ⟨o, xs, e, g, l⟩ := q
    simp only [Dat2]
    exact ⟨a, o, xs, rfl, e, n, g, l⟩
  | .none, q => q.elim
  | .bool _, q => q.elim
  | .int _, q => q.elim
  | .str _, q => q.elim
  | .tuple _, q => q.elim
theorem Obj1.isL {a : Addr} : ∀ {d : D}, Obj1 K H A a d → Tk.isL d = true
  | .list ds, _ => rfl
  | .dict kvs, _ => rfl
  | .none, q => q.elim
  | .bool _, q => q.elim
  | .int _, q => q.elim
  | .str _, q => q.elim
  | .tuple _, q => q.elim
theorem Dat.scal {v : V} {d : D} (s : scalar d = true) (q : Dat K H A v d) : Dat K H' B v d := by
  cases d <;> simp [scalar, flat] at s <;> simpa [Dat] using q
theorem Dat.scal2 {v : V} {d : D} (s : scalar d = true) (q : Dat K H A v d) : Dat2 K H' B C v d := by
  cases d <;> simp [scalar, flat] at s <;> simpa [Dat, Dat2] using q
end
end Tk
set_option linter.all false
set_option Elab.async false
set_option maxRecDepth 100000
/-! TkInv: the state of a frame. -/
namespace Tk
open PySem L2

structure Fm where
  /-- what the frame's data does not stand on -/
  A : Addr → Prop
  /-- the heap at the entry, what of it may be written -/
  H0 : Hp
  W : Addr → Prop
  /-- the draws: the list and its numbers -/
  dr : Option (Addr × Addr)
  /-- data and cells that are held besides -/
  T : V → D → Prop
  C : Addr → HO → Prop

def Dr (Φ : Fm) (a : Addr) : Prop := ∃ p q, Φ.dr = some (p, q) ∧ (a = p ∨ a = q)
def Ow (σ : L2.St) (ρ : Env) (a : Addr) : Prop := ∃ (i : Nat) (d : D), ρ[i]? = some (.ow d) ∧ σ[i]? = some (some (.ref a))
def OwX (σ : L2.St) (ρ : Env) (X : List Nat) (a : Addr) : Prop := ∃ (i : Nat) (d : D), i ∉ X ∧ ρ[i]? = some (.ow d) ∧ σ[i]? = some (some (.ref a))
def Av (Φ : Fm) (σ : L2.St) (ρ : Env) (a : Addr) : Prop := Φ.A a ∨ Ow σ ρ a
def AvX (Φ : Fm) (σ : L2.St) (ρ : Env) (X : List Nat) (a : Addr) : Prop := Φ.A a ∨ OwX σ ρ X a
def DsOk (Φ : Fm) (H : Hp) (δ : DS) : Prop := match Φ.dr, δ with
  | none, none => True
  | some (p, q), some (ns, n) => H p = some (.lst [.ref q, .int n]) ∧ H q = some (.lst (ns.map V.int)) ∧ p ≠ q ∧ Φ.A p ∧ Φ.A q
  | _, _ => False
/-- all stands but the draws -/
def Gr (Φ : Fm) (H H' : Hp) : Prop := ∀ a o, H a = some o → ¬ Dr Φ a → H' a = some o

structure Rel (K : PySem.W.Frag) (Φ : Fm) (σ : L2.St) (H : Hp) (ρ : Env) (δ : DS) : Prop where
  len : σ.length = ρ.length
  va : ∀ (i : Nat) (d : D), ρ[i]? = some (.va d) → ∃ v, σ[i]? = some (some v) ∧ Dat K H (Av Φ σ ρ) v d
  ow : ∀ (i : Nat) (d : D), ρ[i]? = some (.ow d) → ∃ a, σ[i]? = some (some (.ref a)) ∧ ¬ Φ.A a ∧ Obj1 K H (Av Φ σ ρ) a d ∧ (Φ.H0 a = none ∨ Φ.W a)
  inj : ∀ (i j : Nat) (d e : D) (a : Addr), ρ[i]? = some (.ow d) → ρ[j]? = some (.ow e) → σ[i]? = some (some (.ref a)) → σ[j]? = some (some (.ref a)) → i = j
  dr : ∀ (i : Nat), ρ[i]? = some .dr → ∃ p q, Φ.dr = some (p, q) ∧ σ[i]? = some (some (.ref p))
  ds : DsOk Φ H δ
  al : ∀ a, Φ.A a → ∃ m : Mu, H a = some m.o
  fr : ∀ a o, Φ.H0 a = some o → ¬ Φ.W a → ¬ Dr Φ a → H a = some o
  tm : ∀ v d, Φ.T v d → Dat K H (Av Φ σ ρ) v d
  ce : ∀ a o, Φ.C a o → H a = some o ∧ ¬ Av Φ σ ρ a

section
variable {K : PySem.W.Frag} {Φ : Fm} {σ : L2.St} {H H' : Hp} {ρ : Env} {δ δ' : DS}

theorem Gr.refl : Gr Φ H H := fun _ _ h _ => h
theorem Gr.trans {H1 H2 : Hp} (a : Gr Φ H H1) (b : Gr Φ H1 H2) : Gr Φ H H2 := fun x o h n => b x o (a x o h n) n
theorem Gr.new {p : Addr} {o : HO} (h : H p = none) : Gr Φ H (upd H p o) := fun a u e _ => by
  rw [upd_ne (ne_of_none e h)]; exact e
theorem Gr.free (g : Gr Φ H H') (ds : DsOk Φ H δ) {p : Addr} (h : H' p = none) (ds' : DsOk Φ H' δ') : H p = none := by
  cases e : H p with
  | none => rfl
  | some o =>
    by_cases hd : Dr Φ p
    · obtain ⟨a, q, e1, e2⟩ := hd
      unfold DsOk at ds'
      rw [e1] at ds'
      cases δ' with
      | none => exact ds'.elim
      | some nn =>
        obtain ⟨ns, n⟩ := nn
        simp only at ds'
        rcases e2 with rfl | rfl
        · rw [ds'.1] at h; cases h
        · rw [ds'.2.1] at h; cases h
    · rw [g p o e hd] at h; cases h
theorem Gr.freeR (g : Gr Φ H H') (r : Rel K Φ σ H ρ δ) {p : Addr} (ds' : DsOk Φ H' δ') (h : H' p = none) : H p = none := g.free r.ds h ds'
theorem Dr.A {a : Addr} (h : Dr Φ a) (ds : DsOk Φ H δ) : Φ.A a := by
  obtain ⟨p, q, e1, e2⟩ := h
  unfold DsOk at ds
  rw [e1] at ds
  cases δ with
  | none => exact ds.elim
  | some nn =>
    obtain ⟨ns, n⟩ := nn
    simp only at ds
    rcases e2 with rfl | rfl
    · exact ds.2.2.2.1
    · exact ds.2.2.2.2
theorem Ow.lst {a : Addr} (r : Rel K Φ σ H ρ δ) (h : Ow σ ρ a) : ∃ m : Mu, H a = some m.o := by
  obtain ⟨i, d, e1, e2⟩ := h
  obtain ⟨b, e3, _, e4, _⟩ := r.ow i d e1
  rw [e2] at e3
  cases e3
  exact e4.mu
theorem Ow.nA {a : Addr} (r : Rel K Φ σ H ρ δ) (h : Ow σ ρ a) : ¬ Φ.A a := by
  obtain ⟨i, d, e1, e2⟩ := h
  obtain ⟨b, e3, n, e4, _⟩ := r.ow i d e1
  rw [e2] at e3
  cases e3
  exact n
theorem Av.lst {a : Addr} (r : Rel K Φ σ H ρ δ) (h : Av Φ σ ρ a) : ∃ m : Mu, H a = some m.o := h.elim (r.al a) (Ow.lst r)
theorem OwX.ow {a : Addr} {X : List Nat} (h : OwX σ ρ X a) : Ow σ ρ a := let ⟨i, d, _, e1, e2⟩ := h; ⟨i, d, e1, e2⟩
theorem AvX.av {a : Addr} {X : List Nat} (h : AvX Φ σ ρ X a) : Av Φ σ ρ a := h.elim .inl fun h => .inr h.ow
theorem AvX.mono {a : Addr} {X Y : List Nat} (h : AvX Φ σ ρ X a) (s : ∀ i ∈ Y, i ∈ X) : AvX Φ σ ρ Y a := by
  rcases h with h | ⟨i, d, n, e1, e2⟩
  · exact .inl h
  · exact .inr ⟨i, d, fun z => n (s i z), e1, e2⟩
theorem Av.fresh {p : Addr} (r : Rel K Φ σ H ρ δ) (h : H p = none) : ¬ Av Φ σ ρ p := fun z => by
  obtain ⟨xs, e⟩ := Av.lst r z
  rw [e] at h; cases h
theorem Gr.dat {A : Addr → Prop} (g : Gr Φ H H') (hA : ∀ a, Dr Φ a → A a) {v : V} {d : D} (q : Dat K H A v d) : Dat K H' A v d :=
  Dat.mono (fun a o e _ n => ⟨g a o e fun z => n (hA a z), n⟩) d q
theorem Gr.datL {A : Addr → Prop} (g : Gr Φ H H') (hA : ∀ a, Dr Φ a → A a) {vs : List V} {ds : List D} (q : DatL K H A vs ds) : DatL K H' A vs ds :=
  DatL.mono (fun a o e _ n => ⟨g a o e fun z => n (hA a z), n⟩) ds q
theorem Gr.dat2 {A B : Addr → Prop} (g : Gr Φ H H') (hA : ∀ a, Dr Φ a → A a) (hB : ∀ a, Dr Φ a → B a) {v : V} {d : D} (q : Dat2 K H A B v d) : Dat2 K H' A B v d :=
  Dat2.mono (fun a o e _ n => ⟨g a o e fun z => n (hA a z), n⟩) (fun a o e _ n => ⟨g a o e fun z => n (hB a z), n⟩) q
theorem Rel.drA (r : Rel K Φ σ H ρ δ) (X : List Nat) : ∀ a, Dr Φ a → AvX Φ σ ρ X a := fun a z => .inl (z.A r.ds)
theorem Rel.drV (r : Rel K Φ σ H ρ δ) : ∀ a, Dr Φ a → Av Φ σ ρ a := fun a z => .inl (z.A r.ds)
theorem Rel.nDr (r : Rel K Φ σ H ρ δ) {a : Addr} (h : ¬ Φ.A a) : ¬ Dr Φ a := fun z => h (z.A r.ds)

/-- the heap grows, the draws turn -/
theorem Rel.grow (r : Rel K Φ σ H ρ δ) (g : Gr Φ H H') (ds : DsOk Φ H' δ') : Rel K Φ σ H' ρ δ' where
  len := r.len
  va := fun i d e => let ⟨v, e1, e2⟩ := r.va i d e; ⟨v, e1, g.dat r.drV e2⟩
  ow := fun i d e => let ⟨a, e2, n, e3, e5⟩ := r.ow i d e; ⟨a, e2, n, e3.mono (fun o e => g a o e (r.nDr n)) (fun a o e _ n => ⟨g a o e fun z => n (r.drV a z), n⟩), e5⟩
  inj := r.inj
  dr := r.dr
  ds := ds
  al := fun a h => by
    by_cases z : Dr Φ a
    · obtain ⟨p, q, e1, e2⟩ := z
      unfold DsOk at ds
      rw [e1] at ds
      cases δ' with
      | none => exact ds.elim
      | some nn =>
        obtain ⟨ns, n⟩ := nn
        simp only at ds
        rcases e2 with rfl | rfl
        · exact ⟨.l _, ds.1⟩
        · exact ⟨.l _, ds.2.1⟩
    · obtain ⟨xs, e⟩ := r.al a h
      exact ⟨xs, g a _ e z⟩
  fr := fun a o e n z => g a o (r.fr a o e n z) z
  tm := fun v d t => g.dat r.drV (r.tm v d t)
  ce := fun a o c => let ⟨e, n⟩ := r.ce a o c; ⟨g a o e fun z => n (r.drV a z), n⟩
/-- all stands -/
theorem Rel.grow0 (r : Rel K Φ σ H ρ δ) (g : ∀ a o, H a = some o → H' a = some o) : Rel K Φ σ H' ρ δ :=
  r.grow (fun a o e _ => g a o e) (by
    have d := r.ds
    unfold DsOk at d ⊢
    split at d
    · trivial
    · exact ⟨g _ _ d.1, g _ _ d.2.1, d.2.2⟩
    · exact d.elim)
theorem DsOk.grow0 (d : DsOk Φ H δ) (g : ∀ a o, H a = some o → H' a = some o) : DsOk Φ H' δ := by
  unfold DsOk at d ⊢
  split at d
  · trivial
  · exact ⟨g _ _ d.1, g _ _ d.2.1, d.2.2⟩
  · exact d.elim
theorem DsOk.new {p : Addr} {o : HO} (d : DsOk Φ H δ) (h : H p = none) : DsOk Φ (upd H p o) δ := d.grow0 fun a u e => by
  rw [upd_ne (ne_of_none e h)]; exact e

/-- a new list that is avoided -/
theorem Rel.hideM {p : Addr} (m : Mu) (r : Rel K Φ σ H ρ δ) (h : H p = none) : Rel K { Φ with A := fun a => Φ.A a ∨ a = p } σ (upd H p m.o) ρ δ := by
  have sub : ∀ a, Av { Φ with A := fun a => Φ.A a ∨ a = p } σ ρ a → Av Φ σ ρ a ∨ a = p := fun a z => z.elim (fun z => z.elim (fun z => .inl (.inl z)) .inr) fun z => .inl (.inr z)
  have st : ∀ a o, H a = some o → upd H p m.o a = some o := fun a o e => by rw [upd_ne (ne_of_none e h)]; exact e
  have go : ∀ a o, H a = some o → Seq o → ¬ Av Φ σ ρ a → upd H p m.o a = some o ∧ ¬ Av { Φ with A := fun a => Φ.A a ∨ a = p } σ ρ a := fun a o e _ n =>
    ⟨st a o e, fun z => (sub a z).elim n fun z => ne_of_none e h z⟩
  refine ⟨r.len, fun i d e => ?_, fun i d e => ?_, r.inj, r.dr, ?_, fun a z => ?_, fun a o e n z => st a o (r.fr a o e n z), fun v d t => Dat.mono go d (r.tm v d t), fun a o c => ?_⟩
  · obtain ⟨v, e1, e2⟩ := r.va i d e
    exact ⟨v, e1, Dat.mono go d e2⟩
  · obtain ⟨a, e1, n, e2, e4⟩ := r.ow i d e
    obtain ⟨m, e3⟩ := e2.mu
    exact ⟨a, e1, fun z => z.elim n fun z => ne_of_none e3 h z, e2.mono (st a) go, e4⟩
  · have d := r.ds
    unfold DsOk at d ⊢
    simp only
    split at d
    · trivial
    · exact ⟨st _ _ d.1, st _ _ d.2.1, d.2.2.1, .inl d.2.2.2.1, .inl d.2.2.2.2⟩
    · exact d.elim
  · rcases z with z | z
    · obtain ⟨ys, e⟩ := r.al a z
      exact ⟨ys, st a _ e⟩
    · exact ⟨m, by rw [z]; exact upd_same⟩
  · obtain ⟨e, n⟩ := r.ce a o c
    exact ⟨st a o e, fun z => (sub a z).elim n fun z => ne_of_none e h z⟩
theorem Rel.hide {p : Addr} {xs : List V} (r : Rel K Φ σ H ρ δ) (h : H p = none) : Rel K { Φ with A := fun a => Φ.A a ∨ a = p } σ (upd H p (.lst xs)) ρ δ := r.hideM (.l xs) h

/-! ### slots -/
theorem set_get {α : Type} {l : List α} {i j : Nat} {x y : α} (h : (l.set i x)[j]? = some y) : (j = i ∧ y = x ∧ i < l.length) ∨ (j ≠ i ∧ l[j]? = some y) := by
  by_cases e : j = i
  · subst e
    by_cases hl : j < l.length
    · rw [List.getElem?_set_self hl] at h
      exact .inl ⟨rfl, (Option.some.inj h).symm, hl⟩
    · rw [List.getElem?_eq_none (by simpa using hl)] at h; cases h
  · rw [List.getElem?_set_ne (Ne.symm e)] at h
    exact .inr ⟨e, h⟩
theorem ow_set {i : Nat} {s : Slot} {v : Option V} (hs : ∀ d, s ≠ .ow d) {a : Addr} (h : Ow (σ.set i v) (ρ.set i s) a) : Ow σ ρ a := by
  obtain ⟨j, d, e1, e2⟩ := h
  rcases set_get e1 with ⟨_, e, _⟩ | ⟨n, e1⟩
  · exact absurd e.symm (hs d)
  · rcases set_get e2 with ⟨z, _⟩ | ⟨_, e2⟩
    · exact absurd z n
    · exact ⟨j, d, e1, e2⟩
theorem av_set {i : Nat} {s : Slot} {v : Option V} (hs : ∀ d, s ≠ .ow d) {a : Addr} (h : Av Φ (σ.set i v) (ρ.set i s) a) : Av Φ σ ρ a := h.elim .inl fun z => .inr (ow_set hs z)
/-- a slot gets something that is not owned -/
theorem Rel.setS {i : Nat} {s : Slot} {v : Option V} (r : Rel K Φ σ H ρ δ) (hs : ∀ d, s ≠ .ow d) (hd : s ≠ .dr) (hv : ∀ d, s = .va d → ∃ u, v = some u ∧ Dat K H (Av Φ σ ρ) u d) : Rel K Φ (σ.set i v) H (ρ.set i s) δ := by
  have go : ∀ a o, H a = some o → Seq o → ¬ Av Φ σ ρ a → H a = some o ∧ ¬ Av Φ (σ.set i v) (ρ.set i s) a := fun a o e _ n => ⟨e, fun z => n (av_set hs z)⟩
  refine ⟨by simpa using r.len, fun j d e => ?_, fun j d e => ?_, fun j l d e a h1 h2 h3 h4 => ?_, fun j e => ?_, r.ds, r.al, r.fr, fun w d t => Dat.mono go d (r.tm w d t), fun a o c => ?_⟩
  · rcases set_get e with ⟨e1, e2, e3⟩ | ⟨n, e⟩
    · subst e1
      obtain ⟨u, eu, q⟩ := hv d e2.symm
      exact ⟨u, by rw [List.getElem?_set_self (by rw [r.len]; exact e3), eu], Dat.mono go d q⟩
    · obtain ⟨u, e1, e2⟩ := r.va j d e
      exact ⟨u, by rw [List.getElem?_set_ne (Ne.symm n)]; exact e1, Dat.mono go d e2⟩
  · rcases set_get e with ⟨_, e2, _⟩ | ⟨n, e⟩
    · exact absurd e2.symm (hs d)
    · obtain ⟨a, e1, na, e2, e4⟩ := r.ow j d e
      exact ⟨a, by rw [List.getElem?_set_ne (Ne.symm n)]; exact e1, na, e2.mono (fun _ h => h) go, e4⟩
  · rcases set_get h1 with ⟨_, e2, _⟩ | ⟨n, h1⟩
    · exact absurd e2.symm (hs d)
    · rcases set_get h2 with ⟨_, e2, _⟩ | ⟨n2, h2⟩
      · exact absurd e2.symm (hs e)
      · rw [List.getElem?_set_ne (Ne.symm n)] at h3
        rw [List.getElem?_set_ne (Ne.symm n2)] at h4
        exact r.inj j l d e a h1 h2 h3 h4
  · rcases set_get e with ⟨_, e2, _⟩ | ⟨n, e⟩
    · exact absurd e2.symm hd
    · obtain ⟨p, q, e1, e2⟩ := r.dr j e
      exact ⟨p, q, e1, by rw [List.getElem?_set_ne (Ne.symm n)]; exact e2⟩
  · obtain ⟨e, n⟩ := r.ce a o c
    exact ⟨e, fun z => n (av_set hs z)⟩
theorem Rel.setVa {i : Nat} {v : V} {d : D} (r : Rel K Φ σ H ρ δ) (q : Dat K H (Av Φ σ ρ) v d) : Rel K Φ (σ.set i (some v)) H (ρ.set i (.va d)) δ :=
  r.setS (fun _ z => nomatch z) (fun z => nomatch z) fun e z => by
    injection z with z; subst z
    exact ⟨v, rfl, q⟩
theorem Rel.setNo {i : Nat} (r : Rel K Φ σ H ρ δ) : Rel K Φ (σ.set i none) H (ρ.set i .no) δ :=
  r.setS (fun _ z => nomatch z) (fun z => nomatch z) fun e z => nomatch z
/-- a new list comes into a slot -/
theorem Rel.setOw {H1 : Hp} {i : Nat} {p : Addr} {dd : D} (r : Rel K Φ σ H1 ρ δ) (g : Gr Φ H1 H) (dk : DsOk Φ H δ') (hi : i < ρ.length) (hp : H1 p = none) (q : Obj1 K H (fun a => a = p ∨ Av Φ σ ρ a) p dd) :
    Rel K Φ (σ.set i (some (.ref p))) H (ρ.set i (.ow dd)) δ' := by
  have nA : ¬ Av Φ σ ρ p := Av.fresh r hp
  have sub : ∀ a, Av Φ (σ.set i (some (.ref p))) (ρ.set i (.ow dd)) a → a = p ∨ Av Φ σ ρ a := fun a z => by
    rcases z with z | ⟨j, d, e1, e2⟩
    · exact .inr (.inl z)
    · rcases set_get e1 with ⟨z1, _, _⟩ | ⟨n, e1⟩
      · rcases set_get e2 with ⟨_, z2, _⟩ | ⟨n2, _⟩
        · injection z2 with z2; injection z2 with z2; exact .inl z2
        · exact absurd z1 n2
      · rcases set_get e2 with ⟨z2, _⟩ | ⟨_, e2⟩
        · exact absurd z2 n
        · exact .inr (.inr ⟨j, d, e1, e2⟩)
  have go : ∀ a o, H1 a = some o → Seq o → ¬ Av Φ σ ρ a → H a = some o ∧ ¬ Av Φ (σ.set i (some (.ref p))) (ρ.set i (.ow dd)) a := fun a o e _ n =>
    ⟨g a o e fun z => n (r.drV a z), fun z => (sub a z).elim (fun z => ne_of_none e hp z) n⟩
  have R := r.grow g dk
  have hl : i < σ.length := by rw [r.len]; exact hi
  refine ⟨by simpa using r.len, fun j d e => ?_, fun j d ej => ?_, fun j l d e' a h1 h2 h3 h4 => ?_, fun j e => ?_, dk, R.al, R.fr, fun w d t => Dat.mono go d (r.tm w d t), fun a o c => ?_⟩
  · rcases set_get e with ⟨_, e2, _⟩ | ⟨n, e⟩
    · cases e2
    · obtain ⟨u, e1, e2⟩ := r.va j d e
      exact ⟨u, by rw [List.getElem?_set_ne (Ne.symm n)]; exact e1, Dat.mono go d e2⟩
  · rcases set_get ej with ⟨e1, e2, e3⟩ | ⟨n, ej⟩
    · subst e1
      injection e2 with e2; subst e2
      refine ⟨p, List.getElem?_set_self hl, fun z => nA (.inl z), q.mono (fun _ h => h) (fun a o q _ n => ⟨q, fun z => n (sub a z)⟩), ?_⟩
      cases h0 : Φ.H0 p with
      | none => exact .inl rfl
      | some o =>
        refine .inr (Classical.byContradiction fun nW => ?_)
        have := r.fr p o h0 nW fun z => nA (.inl (z.A r.ds))
        rw [hp] at this; cases this
    · obtain ⟨a, e1, na, e2, e4⟩ := r.ow j d ej
      exact ⟨a, by rw [List.getElem?_set_ne (Ne.symm n)]; exact e1, na, e2.mono (fun o h => g a o h (r.nDr na)) go, e4⟩
  · rcases set_get h1 with ⟨z1, _, _⟩ | ⟨n, h1⟩
    · rcases set_get h2 with ⟨z2, _, _⟩ | ⟨n2, h2⟩
      · exact z1.trans z2.symm
      · rw [z1, List.getElem?_set_self hl] at h3
        rw [List.getElem?_set_ne (Ne.symm n2)] at h4
        injection h3 with h3; injection h3 with h3; injection h3 with h3; subst h3
        exact absurd (.inr ⟨l, e', h2, h4⟩) nA
    · rw [List.getElem?_set_ne (Ne.symm n)] at h3
      rcases set_get h2 with ⟨z2, _, _⟩ | ⟨n2, h2⟩
      · rw [z2, List.getElem?_set_self hl] at h4
        injection h4 with h4; injection h4 with h4; injection h4 with h4; subst h4
        exact absurd (.inr ⟨j, d, h1, h3⟩) nA
      · rw [List.getElem?_set_ne (Ne.symm n2)] at h4
        exact r.inj j l d e' a h1 h2 h3 h4
  · rcases set_get e with ⟨_, e2, _⟩ | ⟨n, e⟩
    · cases e2
    · obtain ⟨p', q', e1, e2⟩ := r.dr j e
      exact ⟨p', q', e1, by rw [List.getElem?_set_ne (Ne.symm n)]; exact e2⟩
  · obtain ⟨e, n⟩ := r.ce a o c
    exact ⟨g a o e fun z => n (r.drV a z), fun z => (sub a z).elim (fun z => ne_of_none e hp z) n⟩
/-- an owned list is written -/
theorem Rel.mutO {i : Nat} {a : Addr} {d dd : D} {m : HO} (r : Rel K Φ σ H ρ δ) (hi : ρ[i]? = some (.ow d)) (ha : σ[i]? = some (some (.ref a))) (q : Obj1 K (upd H a m) (Av Φ σ ρ) a dd) :
    Rel K Φ σ (upd H a m) (ρ.set i (.ow dd)) δ := by
  obtain ⟨b, e1, na, e2, e4⟩ := r.ow i d hi
  rw [ha] at e1
  injection e1 with e1; injection e1 with e1; injection e1 with e1; subst e1
  have hl : i < ρ.length := (List.getElem?_eq_some_iff.mp hi).1
  have oa : Av Φ σ ρ a := .inr ⟨i, _, hi, ha⟩
  have sub : ∀ b, Av Φ σ (ρ.set i (.ow dd)) b → Av Φ σ ρ b := fun b z => by
    rcases z with z | ⟨j, d, z1, z2⟩
    · exact .inl z
    · rcases set_get z1 with ⟨w, _, _⟩ | ⟨n, z1⟩
      · subst w; exact .inr ⟨j, _, hi, z2⟩
      · exact .inr ⟨j, d, z1, z2⟩
  have go : ∀ b o, H b = some o → Seq o → ¬ Av Φ σ ρ b → upd H a m b = some o ∧ ¬ Av Φ σ (ρ.set i (.ow dd)) b := fun b o e _ n =>
    ⟨by rw [upd_ne (fun z => n (by rw [z]; exact oa))]; exact e, fun z => n (sub b z)⟩
  refine ⟨by simpa using r.len, fun j d e => ?_, fun j d ej => ?_, fun j l d e' b h1 h2 h3 h4 => ?_, fun j e => ?_, ?_, fun b z => ?_, fun b o e n z => ?_, fun w d t => Dat.mono go d (r.tm w d t), fun b o c => ?_⟩
  · rcases set_get e with ⟨_, e2, _⟩ | ⟨n, e⟩
    · cases e2
    · obtain ⟨u, e1, e2⟩ := r.va j d e
      exact ⟨u, e1, Dat.mono go d e2⟩
  · rcases set_get ej with ⟨w1, w2, w3⟩ | ⟨n, ej⟩
    · subst w1
      injection w2 with w2; subst w2
      exact ⟨a, ha, na, q.mono (fun _ h => h) (fun b o e _ n => ⟨e, fun z => n (sub b z)⟩), e4⟩
    · obtain ⟨b, f1, nb, f2, f4⟩ := r.ow j d ej
      have hba : b ≠ a := fun z => n (r.inj j i _ _ a ej hi (by rw [← z]; exact f1) ha)
      exact ⟨b, f1, nb, f2.mono (fun o h => by rw [upd_ne hba]; exact h) go, f4⟩
  · have k : ∀ (m : Nat) (d : D), (ρ.set i (.ow dd))[m]? = some (.ow d) → ∃ d', ρ[m]? = some (.ow d') := fun m d hm => by
      rcases set_get hm with ⟨w, _, _⟩ | ⟨_, hm⟩
      · subst w; exact ⟨_, hi⟩
      · exact ⟨d, hm⟩
    obtain ⟨d1, h1⟩ := k j d h1
    obtain ⟨d2, h2⟩ := k l e' h2
    exact r.inj j l d1 d2 b h1 h2 h3 h4
  · rcases set_get e with ⟨_, e2, _⟩ | ⟨n, e⟩
    · cases e2
    · exact r.dr j e
  · have d := r.ds
    unfold DsOk at d ⊢
    split at d
    · trivial
    · refine ⟨?_, ?_, d.2.2⟩
      · rw [upd_ne (fun z => na (by rw [← z]; exact d.2.2.2.1))]; exact d.1
      · rw [upd_ne (fun z => na (by rw [← z]; exact d.2.2.2.2))]; exact d.2.1
    · exact d.elim
  · rw [upd_ne (fun w => na (by rw [← w]; exact z))]
    exact r.al b z
  · rcases e4 with e4 | e4
    · rw [upd_ne (fun w => by rw [w, e4] at e; cases e)]
      exact r.fr b o e n z
    · rw [upd_ne (fun w => n (by rw [w]; exact e4))]
      exact r.fr b o e n z
  · obtain ⟨e, n⟩ := r.ce b o c
    exact ⟨by rw [upd_ne (fun z => n (by rw [z]; exact oa))]; exact e, fun z => n (sub b z)⟩
theorem Rel.mut {i : Nat} {a : Addr} {d : D} {xs : List V} {ds : List D} (r : Rel K Φ σ H ρ δ) (hi : ρ[i]? = some (.ow d)) (ha : σ[i]? = some (some (.ref a))) (q : DatL K H (Av Φ σ ρ) xs ds) :
    Rel K Φ σ (upd H a (.lst xs)) (ρ.set i (.ow (.list ds))) δ := by
  have oa : Av Φ σ ρ a := .inr ⟨i, _, hi, ha⟩
  exact r.mutO hi ha ⟨xs, upd_same, DatL.mono (fun b o e _ n => ⟨by rw [upd_ne (fun z => n (by rw [z]; exact oa))]; exact e, n⟩) ds q⟩
theorem Rel.mutD {i : Nat} {a : Addr} {d : D} {o : Obj} {xs : List KEnt} {ds : List (D × D)} (r : Rel K Φ σ H ρ δ) (hi : ρ[i]? = some (.ow d)) (ha : σ[i]? = some (some (.ref a))) (g : GoodD a o xs) (q : DatP K H (Av Φ σ ρ) xs ds) :
    Rel K Φ σ (upd H a (DO a o)) (ρ.set i (.ow (.dict ds))) δ := by
  have oa : Av Φ σ ρ a := .inr ⟨i, _, hi, ha⟩
  exact r.mutO hi ha ⟨o, xs, upd_same, g, DatP.mono (fun b o e _ n => ⟨by rw [upd_ne (fun z => n (by rw [z]; exact oa))]; exact e, n⟩) ds q⟩
/-- an owned list is shared from now on -/
theorem Rel.frz1 {i : Nat} {d : D} (r : Rel K Φ σ H ρ δ) (hi : ρ[i]? = some (.ow d)) : Rel K Φ σ H (ρ.set i (.va d)) δ := by
  obtain ⟨a, ha, na, e2, e4⟩ := r.ow i d hi
  have hl : i < ρ.length := (List.getElem?_eq_some_iff.mp hi).1
  have back : ∀ (m : Nat) (d' : D), (ρ.set i (.va d))[m]? = some (.ow d') → m ≠ i ∧ ρ[m]? = some (.ow d') := fun m d' hm => by
    rcases set_get hm with ⟨_, w, _⟩ | ⟨n, hm⟩
    · cases w
    · exact ⟨n, hm⟩
  have sub : ∀ b, Av Φ σ (ρ.set i (.va d)) b → Av Φ σ ρ b := fun b z => by
    rcases z with z | ⟨j, d', z1, z2⟩
    · exact .inl z
    · exact .inr ⟨j, _, (back j _ z1).2, z2⟩
  have go : ∀ b o, H b = some o → Seq o → ¬ Av Φ σ ρ b → H b = some o ∧ ¬ Av Φ σ (ρ.set i (.va d)) b := fun b o e _ n => ⟨e, fun z => n (sub b z)⟩
  refine ⟨by simpa using r.len, fun j d' e => ?_, fun j d' ej => ?_, fun j l d' e' b h1 h2 h3 h4 => ?_, fun j e => ?_, r.ds, r.al, r.fr, fun w d t => Dat.mono go d (r.tm w d t), fun b o c => ?_⟩
  · rcases set_get e with ⟨w1, w2, _⟩ | ⟨n, e⟩
    · subst w1
      injection w2 with w2; subst w2
      refine ⟨.ref a, ha, Obj1.dat (fun z => ?_) (e2.mono (fun _ h => h) go)⟩
      rcases z with z | ⟨l, d2, z1, z2⟩
      · exact na z
      · obtain ⟨n, z1⟩ := back l d2 z1
        exact n (r.inj l j d2 _ a z1 hi z2 ha)
    · obtain ⟨u, e1, e2⟩ := r.va j d' e
      exact ⟨u, e1, Dat.mono go d' e2⟩
  · obtain ⟨n, ej⟩ := back j d' ej
    obtain ⟨b, f1, nb, f2, f4⟩ := r.ow j d' ej
    exact ⟨b, f1, nb, f2.mono (fun _ h => h) go, f4⟩
  · exact r.inj j l d' e' b (back j d' h1).2 (back l e' h2).2 h3 h4
  · rcases set_get e with ⟨_, w, _⟩ | ⟨n, e⟩
    · cases w
    · exact r.dr j e
  · obtain ⟨e, n⟩ := r.ce b o c
    exact ⟨e, fun z => n (sub b z)⟩
theorem Rel.frz : ∀ {ρ : Env} (X : List Nat), Rel K Φ σ H ρ δ → Rel K Φ σ H (frz ρ X) δ
  | ρ, [], r => r
  | ρ, i :: X, r => by
    unfold Tk.frz
    refine Rel.frz X ?_
    split
    · exact r.frz1 (by assumption)
    · exact r
theorem frz_length : ∀ {ρ : Env} (X : List Nat), (frz ρ X).length = ρ.length
  | ρ, [] => rfl
  | ρ, i :: X => by
    unfold Tk.frz
    rw [frz_length X]
    split <;> simp
theorem frz_ow : ∀ {ρ : Env} (X : List Nat) {j : Nat} {d : D}, (frz ρ X)[j]? = some (.ow d) → ρ[j]? = some (.ow d) ∧ j ∉ X
  | ρ, [], j, d, h => ⟨h, by simp⟩
  | ρ, i :: X, j, d, h => by
    unfold Tk.frz at h
    obtain ⟨h1, h2⟩ := frz_ow X h
    split at h1
    · rcases set_get h1 with ⟨_, w, _⟩ | ⟨n, h1⟩
      · cases w
      · exact ⟨h1, by simp only [List.mem_cons, not_or]; exact ⟨n, h2⟩⟩
    · rename_i hn
      refine ⟨h1, ?_⟩
      simp only [List.mem_cons, not_or]
      exact ⟨fun e => hn d (by rw [← e]; exact h1), h2⟩
theorem av_frz {X : List Nat} {a : Addr} (h : Av Φ σ (frz ρ X) a) : AvX Φ σ ρ X a := by
  rcases h with h | ⟨i, d, e1, e2⟩
  · exact .inl h
  · obtain ⟨e1, n⟩ := frz_ow X e1
    exact .inr ⟨i, d, n, e1, e2⟩
theorem av_clear {X : List Nat} {a : Addr} (c : clear ρ X = true) (h : Av Φ σ ρ a) : AvX Φ σ ρ X a := by
  rcases h with h | ⟨i, d, e1, e2⟩
  · exact .inl h
  · refine .inr ⟨i, d, fun z => ?_, e1, e2⟩
    have := List.all_eq_true.mp c i z
    simp [owned, e1] at this
theorem DsOk.back {Φ : Fm} {A' : Addr → Prop} {H H0 : Hp} {δ δ0 : DS} (d : DsOk { Φ with A := A' } H δ) (d0 : DsOk Φ H0 δ0) : DsOk Φ H δ := by
  unfold DsOk at d d0 ⊢
  simp only at d
  cases hr : Φ.dr with
  | none => rw [hr] at d; cases δ <;> exact d
  | some pq =>
    obtain ⟨p, q⟩ := pq
    rw [hr] at d d0
    cases δ with
    | none => exact d.elim
    | some nn =>
      cases δ0 with
      | none => exact d0.elim
      | some mm =>
        obtain ⟨ns, n⟩ := nn
        obtain ⟨ms, m⟩ := mm
        exact ⟨d.1, d.2.1, d.2.2.1, d0.2.2.2.1, d0.2.2.2.2⟩
mutual
theorem solid_av (r : Rel K Φ σ H ρ δ) {A : Addr → Prop} : ∀ {v : V} (d : D), solid d = true → Dat K H A v d → Dat K H (Av Φ σ ρ) v d
  | v, .none, _, q => by simpa [Dat] using q
  | v, .bool _, _, q => by simpa [Dat] using q
  | v, .int _, _, q => by simpa [Dat] using q
  | v, .str _, _, q => by simpa [Dat] using q
  | v, .list _, s, q => by simp [solid] at s
  | v, .dict _, s, q => by simp [solid] at s
  | v, .tuple ds, s, q => by
    simp only [solid] at s
    simp only [Dat] at q ⊢
    obtain ⟨a, xs, e0, e, l⟩ := q
    refine ⟨a, xs, e0, ?_, solids_av r ds s l⟩
    rcases e with ⟨e, _⟩ | e
    · refine .inl ⟨e, fun z => ?_⟩
      obtain ⟨m, e2⟩ := Av.lst r z
      rw [e] at e2; cases m <;> cases e2
    · exact .inr e
theorem solids_av (r : Rel K Φ σ H ρ δ) {A : Addr → Prop} : ∀ {vs : List V} (ds : List D), solids ds = true → DatL K H A vs ds → DatL K H (Av Φ σ ρ) vs ds
  | [], [], _, _ => DatL.nil
  | [], _ :: _, _, q => by simp [DatL] at q
  | _ :: _, [], _, q => by simp [DatL] at q
  | v :: vs, d :: ds, s, q => by
    simp only [solids, Bool.and_eq_true] at s
    simp only [DatL] at q ⊢
    exact ⟨solid_av r d s.1 q.1, solids_av r ds s.2 q.2⟩
end
end
end Tk
set_option linter.all false
set_option Elab.async false
set_option maxRecDepth 100000
/-! TkCmp: from the program's syntax to the small language. -/
namespace Tk
open PySem

inductive GK where
  | pu | pf | dw | mu (j : Nat) | co (d : D) | ec
structure Ctx where
  N : List Str
  sc : Scope
  fnc : Str → Bool
  G : List (Str × GK)

def ixOf (x : Str) : List Str → Option Nat
  | [] => none
  | y :: ys => if y = x then some 0 else (ixOf x ys).map (· + 1)
def seen (c : Ctx) (x : Str) : Bool := match c.sc.names.lookup x with
  | some .local => true
  | some .cell => true
  | some .free => true
  | _ => false
def slotOf (c : Ctx) (x : Str) : Option Nat := if seen c x && !decide (x = "__debug__") && !decide (x = "__classdict__") then ixOf x c.N else none
def isGl (c : Ctx) (x : Str) : Bool := match c.sc.names.lookup x with
  | some .globalImplicit => !decide (x = "__debug__")
  | _ => false
def okTg (c : Ctx) (x : Str) : Bool := match c.sc.names.lookup x with
  | some .local => true
  | some .cell => c.fnc x
  | _ => false
def tgOf (c : Ctx) (x : Str) : Option Nat := if okTg c x then ixOf x c.N else none
mutual
def cmpTg (c : Ctx) : Nat → Expr → Option Tg
  | 0, _ => none
  | n + 1, e => match e with
    | .Name x _ => (tgOf c x).map .n
    | .Tuple es _ _ => (cmpTgs c n es).map .t
    | _ => none
def cmpTgs (c : Ctx) : Nat → List Expr → Option Tgs
  | 0, _ => none
  | n + 1, es => match es with
    | [] => some .nil
    | e :: es => match cmpTg c n e, cmpTgs c n es with
      | some a, some l => some (.cons a l)
      | _, _ => none
end
/-- the names of a target with their places -/
def tgNames (N : List Str) : Nat → Expr → List (Str × Nat)
  | 0, _ => []
  | n + 1, e => match e with
    | .Name x _ => match ixOf x N with
      | some i => [(x, i)]
      | none => []
    | .Tuple es _ _ => es.flatMap (tgNames N n)
    | _ => []
def cmpK : Const → Option D
  | .none => some .none
  | .bool b => some (.bool b)
  | .int i => some (.int i)
  | .str s => some (.str s)
  | _ => none
def cmpBO : Operator → Option BO
  | .Add => some .add
  | .Sub => some .sub
  | .Mult => some .mul
  | .FloorDiv => some .fdiv
  | .Mod => some .mod
  | .Pow => some .pow
  | _ => none
def cmpCO : CmpOp → Option CO
  | .Eq => some .eq
  | .NotEq => some .ne
  | .Lt => some .lt
  | .LtE => some .le
  | .Gt => some .gt
  | .GtE => some .ge
  | .In => some .isin
  | .NotIn => some .nin
  | _ => none
def tyOf (x : Str) : Option TY :=
  if x = "int" then some .int else if x = "bool" then some .bool else if x = "str" then some .str else if x = "list" then some .list else if x = "tuple" then some .tuple else none
def bu1 (x : Str) : Option BU :=
  if x = "len" then some .len else if x = "list" then some .list else if x = "tuple" then some .tuple else if x = "max" then some .max1 else if x = "min" then some .min1
  else if x = "sum" then some .sum else if x = "all" then some .all else if x = "any" then some .any else if x = "sorted" then some .sorted else if x = "str" then some .str else if x = "int" then some .int else none
def boolE (o : BoolOp) (a b : E) : E := match o with
  | .And => .an a b
  | .Or => .or a b
def isSlice : Expr → Bool
  | .Slice _ _ _ _ => true
  | _ => false
def isTup : Expr → Bool
  | .Tuple _ _ _ => true
  | _ => false
/-- list(range(e)): e -/
def rangeArg (c : Ctx) : Expr → Option Expr
  | .Call (.Name r _) [e] [] _ => if r = "range" && isGl c ("range" : Str) && (c.G.lookup ("range" : Str)).isNone then some e else none
  | _ => none
/-- set(e): e -/
def setArg (c : Ctx) : Expr → Option Expr
  | .Call (.Name r _) [e] [] _ => if r = "set" && isGl c ("set" : Str) && (c.G.lookup ("set" : Str)).isNone then some e else none
  | _ => none
/-- zip(a, b): a, b -/
def zipArg (c : Ctx) : Expr → Option (Expr × Expr)
  | .Call (.Name r _) [a, b] [] _ => if r = "zip" && isGl c ("zip" : Str) && (c.G.lookup ("zip" : Str)).isNone then some (a, b) else none
  | _ => none
def atomE : E → Bool
  | .k _ => true
  | .v _ => true
  | _ => false
/-- methods of texts and lists -/
def cmpM (c : Ctx) (ce : Expr → Option E) (o : Expr) (nm : Str) (as : List Expr) : Option E := match as with
  | [a] => match o with
    | .Constant (.str s) _ _ => if nm = "join" then (ce a).map fun a => .bu (.join s) (.cons a .nil) else none
    | .Name x _ => match slotOf c x, ce a with
      | some i, some a => if atomE a = false then none else if nm = "split" then some (.bu .split (.cons (.v i) (.cons a .nil))) else if nm = "index" then some (.bu .index (.cons (.v i) (.cons a .nil))) else none
      | _, _ => none
    | _ => none
  | [a, b] => match o with
    | .Name x _ => if nm = "get" then match slotOf c x, ce a, ce b with
      | some i, some a, some b => some (.dg (.v i) a b)
      | _, _, _ => none else none
    | _ => none
  | _ => none
def blkCtx (c : Ctx) (scope : Scope) : Ctx := { c with sc := L2.relS scope c.sc, fnc := fun x => scope.names.lookup x == some .cell }
mutual
def cmpE (c : Ctx) : Nat → Expr → Option E
  | 0, _ => none
  | n + 1, e => match e with
    | .Constant k _ _ => (cmpK k).map .k
    | .Name x _ => match slotOf c x with
      | some i => some (.v i)
      | none => match c.G.lookup x with
        | some (.co d) => if isGl c x then some (.gl x d) else none
        | _ => none
    | .BinOp a o b _ => match cmpE c n a, cmpBO o, cmpE c n b with
      | some a, some o, some b => some (.bin o a b)
      | _, _, _ => none
    | .UnaryOp o a _ => match o, cmpE c n a with
      | .USub, some a => some (.neg a)
      | .Not, some a => some (.no a)
      | _, _ => none
    | .BoolOp o vs _ => cmpB c n o vs
    | .Compare a os bs _ => match os, bs with
      | [o], [b] => match o with
        | .Is => match b with
          | .Constant .none _ _ => (cmpE c n a).map (.isn false)
          | .Constant (.bool t) _ _ => (cmpE c n a).map (.isb false t)
          | _ => none
        | .IsNot => match b with
          | .Constant .none _ _ => (cmpE c n a).map (.isn true)
          | .Constant (.bool t) _ _ => (cmpE c n a).map (.isb true t)
          | _ => none
        | o => match cmpE c n a, cmpCO o, cmpE c n b with
          | some a, some o, some b => some (.cm o a b)
          | _, _, _ => none
      | [.LtE, .LtE], [b, d] => match cmpE c n a, cmpE c n b, cmpE c n d with
        | some a, some b, some d => some (.ch a b d)
        | _, _, _ => none
      | _, _ => none
    | .IfExp t a b _ => match cmpE c n t, cmpE c n a, cmpE c n b with
      | some t, some a, some b => some (.ite t a b)
      | _, _, _ => none
    | .Subscript a b _ => match b with
      | .Slice lo hi none _ => match cmpE c n a, cmpO c n lo, cmpO c n hi with
        | some a, some lo, some hi => some (.sl a lo hi)
        | _, _, _ => none
      | .Slice none none (some (.UnaryOp .USub (.Constant (.int 1) _ _) _)) _ => (cmpE c n a).map .rv
      | b => if isSlice b then none else match cmpE c n a, cmpE c n b with
        | some a, some b => some (.ix a b)
        | _, _ => none
    | .Call f as ks cpos => match f, ks with
      | .Attribute o nm apos, [] => if apos.endLine == cpos.line then cmpM c (fun e => cmpE c n e) o nm as else none
      | .Name x _, [] => if isGl c x then match c.G.lookup x with
          | some .pu => match as with
            | [] => some (.c0 x)
            | as => (cmpEs c n as).map (.ca x)
          | some .pf => match as with
            | [] => none
            | as => (cmpEs c n as).map (.cf x)
          | some .dw => match as with
            | .Name y _ :: as => match slotOf c y, cmpEs c n as with
              | some i, some es => some (.dc x i es)
              | _, _ => none
            | _ => none
          | some _ => none
          | none => match as with
            | [a] => match rangeArg c a with
              | some b => if x = "list" then (cmpE c n b).map fun b => .bu .lrange (.cons b .nil) else none
              | none => match setArg c a with
                | some b => if x = "sorted" then (cmpE c n b).map fun b => .bu .sset (.cons b .nil) else none
                | none => match bu1 x, cmpE c n a with
                  | some u, some a => some (.bu u (.cons a .nil))
                  | _, _ => none
            | [a, b] => if x = "isinstance" then match b with
                | .Name t _ => if isGl c t && (c.G.lookup t).isNone then match tyOf t, cmpE c n a with
                  | some t, some a => some (.isi t a)
                  | _, _ => none else none
                | _ => none
              else if x = "max" then match cmpE c n a, cmpE c n b with
                | some a, some b => some (.bu .max2 (.cons a (.cons b .nil)))
                | _, _ => none
              else none
            | _ => none
        else none
      | _, _ => none
    | .List es _ => (cmpEs c n es).map .ls
    | .Tuple es _ _ => (cmpEs c n es).map .tu
    | .Dict ks vs _ => match ks, vs with
      | [], [] => some .dn
      | [some k], [v] => match cmpE c n k, cmpE c n v with
        | some k, some v => some (.d1 k v)
        | _, _ => none
      | _, _ => none
    | .ListComp e gs scope _ => match gs with
      | [⟨tg, iter, ifs, k⟩] => if k = 0 && L2.blkC c.N c.sc scope (tgNames c.N n tg) then
          match cmpTg (blkCtx c scope) n tg, cmpI c n tg iter, cmpE (blkCtx c scope) n e with
          | some tg', some it, some e' => if decide (tg'.ixs = (tgNames c.N n tg).map (·.2)) then match ifs with
            | [] => some (.co e' tg' it (.k (.bool true)))
            | [i] => (cmpE (blkCtx c scope) n i).map fun i => .co e' tg' it i
            | _ => none else none
          | _, _, _ => none
        else none
      | _ => none
    | _ => none
def cmpEs (c : Ctx) : Nat → List Expr → Option Es
  | 0, _ => none
  | n + 1, es => match es with
    | [] => some .nil
    | e :: es => match cmpE c n e, cmpEs c n es with
      | some a, some l => some (.cons a l)
      | _, _ => none
def cmpO (c : Ctx) : Nat → Option Expr → Option E
  | 0, _ => none
  | n + 1, o => match o with
    | none => some .na
    | some e => match cmpE c n e with
      | some a => if isNa a then none else some a
      | none => none
def cmpB (c : Ctx) : Nat → BoolOp → List Expr → Option E
  | 0, _, _ => none
  | n + 1, o, vs => match vs with
    | [] => none
    | [a] => cmpE c n a
    | a :: vs => match cmpE c n a, cmpB c n o vs with
      | some a, some b => some (boolE o a b)
      | _, _ => none
/-- what is walked, by its target -/
def cmpI (c : Ctx) : Nat → Expr → Expr → Option I
  | 0, _, _ => none
  | n + 1, tg, e => match e with
    | .Call (.Name f _) as [] _ => if isGl c f && (c.G.lookup f).isNone then
        if f = "range" then match as with
          | [a] => (cmpE c n a).map .r1
          | [a, b] => match cmpE c n a, cmpE c n b with
            | some a, some b => some (.r2 a b)
            | _, _ => none
          | _ => none
        else if f = "enumerate" then if isTup tg then match as with
          | [a] => match zipArg c a with
            | some (x, y) => match cmpE c n x, cmpE c n y with
              | some x, some y => some (.ez x y)
              | _, _ => none
            | none => (cmpE c n a).map .en
          | _ => none else none
        else if f = "zip" then if isTup tg then match as with
          | [a, b] => match cmpE c n a, cmpE c n b with
            | some a, some b => some (.zp a b)
            | _, _ => none
          | _ => none else none
        else (cmpE c n e).map .sq
      else (cmpE c n e).map .sq
    | .Set _ _ _ => none
    | e => (cmpE c n e).map .sq
end

/-! ### statements -/
def isComp : Expr → Bool
  | .ListComp _ _ _ _ => true
  | .SetComp _ _ _ _ => true
  | .DictComp _ _ _ _ _ => true
  | _ => false
def swpNames (lk : Str → Option NameKind) (ts : List Expr) : List Str := ts.filterMap fun
  | .Name id pos => if lk id == some .local && pos.line == (ts.head?.map (·.pos.line)).getD 0 then some id else none
  | _ => none
/-- are the stores of a, b = x, y swapped? -/
def swpOK (lk : Str → Option NameKind) (ts vs : List Expr) : Option Bool :=
  if !(ts.length == 2 || ts.length == 3) || vs.length != ts.length then some false
  else if (swpNames lk ts).length != ts.length || (swpNames lk ts).eraseDups.length != (swpNames lk ts).length then some false
  else if vs.all (foldedForSure 8) then some false
  else if vs.all (constantsAlone 8) then none
  else some true
def tgNs (c : Ctx) : List Expr → Option (List Nat)
  | [] => some []
  | .Name x _ :: es => match tgOf c x, tgNs c es with
    | some i, some l => some (i :: l)
    | _, _ => none
  | _ => none
/-- the name at place j -/
def nameAt : List Expr → Nat → Option Str
  | .Name x _ :: _, 0 => some x
  | _ :: as, j + 1 => nameAt as j
  | _, _ => none
mutual
def cmpS (c : Ctx) : Nat → Stmt → Option S
  | 0, _ => none
  | n + 1, s => match s with
    | .Pass _ => some .sk
    | .Return v _ => match v with
      | some e => (cmpE c n e).map .ret
      | none => none
    | .Expr e _ => match e with
      | .Call f as ks cpos => match f with
        | .Attribute o nm apos => if nm = "append" && ks.isEmpty && apos.endLine == cpos.line then match o with
            | .Name x _ => match as with
              | [a] => match slotOf c x, cmpE c n a with
                | some i, some a => some (.app i a)
                | _, _ => none
              | _ => none
            | _ => none
          else none
        | .Name f _ => if isGl c f then match c.G.lookup f with
            | some (.mu j) => if ks.isEmpty && !as.isEmpty then match nameAt as j with
                | some x => match slotOf c x, cmpEs c n as with
                  | some i, some es => if nameOf es j = some i then some (.mc f es) else none
                  | _, _ => none
                | none => none
              else none
            | _ => (cmpE c n e).map .ex
          else none
        | _ => none
      | _ => none
    | .If t a b _ => match cmpE c n t, cmpSs c n a, cmpSs c n b with
      | some t, some a, some b => some (.ifs t a b)
      | _, _, _ => none
    | .While t b o _ => match o with
      | [] => match cmpE c n t, cmpSs c n b with
        | some t, some b => some (.wh t b)
        | _, _ => none
      | _ => none
    | .For tg it b o _ => match o with
      | [] => match cmpTg c n tg, cmpI c n tg it, cmpSs c n b with
        | some t, some i, some b => some (.fors t i b)
        | _, _, _ => none
      | _ => none
    | .Assign ts e _ => match ts with
      | [t] => match t with
        | .Name x _ => match tgOf c x, cmpE c n e with
          | some i, some e => some (.set i e)
          | _, _ => none
        | .Tuple ns _ _ => match e with
          | .Tuple vs _ _ => match tgNs c ns, cmpEs c n vs, swpOK (fun x => c.sc.names.lookup x) ns vs with
            | some ts, some es, some _ => if decide ts.Nodup then some (.sets ts es) else none
            | _, _, _ => none
          | e => if isComp e then none else match cmpTg c n t, cmpE c n e with
            | some t, some e => some (.unp t e)
            | _, _ => none
        | .Subscript o k _ => if isSlice k then none else match o with
          | .Name x _ => match slotOf c x, cmpE c n k, cmpE c n e with
            | some i, some k, some e => some (.sti i k e)
            | _, _, _ => none
          | _ => none
        | _ => none
      | _ => none
    | .AugAssign t o e _ => match t with
      | .Name x _ => match o with
        | .Add => match tgOf c x, cmpE c n e with
          | some i, some e => some (.aug i e)
          | _, _ => none
        | _ => none
      | _ => none
    | .Raise x f _ => match f with
      | none => match x with
        | some (.Call (.Name y _) [.Constant (.str _) _ _] [] _) => if isGl c y then match c.G.lookup y with
            | some .ec => some (.rai y)
            | _ => none
          else none
        | _ => none
      | some _ => none
    | _ => none
def cmpSs (c : Ctx) : Nat → List Stmt → Option S
  | 0, _ => none
  | n + 1, l => match l with
    | [] => some .sk
    | s :: l => match cmpS c n s, cmpSs c n l with
      | some a, some b => some (.sq a b)
      | _, _ => none
end
end Tk
set_option linter.all false
set_option Elab.async false
set_option maxRecDepth 100000
set_option maxHeartbeats 1000000
/-! TkExp: each expression does what the small language says. -/
namespace Tk
open PySem L2

abbrev WS := Str → L2.St → Hp → Prop
def PostG {α : Type} (Φ : Fm) (σ : L2.St) (H : Hp) (W : WS) (P : α → DS → Hp → Prop) : R α → Prop
  | .ok a δ' => ∀ H', Gr Φ H H' → DsOk Φ H' δ' → P a δ' H'
  | .er c δ' => ∀ H', Gr Φ H H' → DsOk Φ H' δ' → W c σ H'
  | .bad => False
/-- a new list -/
def Fresh (K : PySem.W.Frag) (Φ : Fm) (σ : L2.St) (H H' : Hp) (ρ : Env) (X : List Nat) (v : V) (d : D) : Prop :=
  isL d = true → ∃ p, v = .ref p ∧ H p = none ∧ Obj1 K H' (fun a => a = p ∨ AvX Φ σ ρ X a) p d
def PE1 (K : PySem.W.Frag) (Φ : Fm) (σ : L2.St) (H : Hp) (ρ : Env) (e : E) (Q : VK) (d : D) (δ' : DS) (H' : Hp) : Prop :=
  ∀ v, Dat2 K H' (AvX Φ σ ρ (esc e)) (AvX Φ σ ρ (esc1 e)) v d → (fresh e = true → Fresh K Φ σ H H' ρ (esc1 e) v d) → Q v H'
def tD (F : Tab) (K : PySem.W.Frag) (W : WS) (e : E) : TE := fun σ H Q => ∃ Φ ρ δ, Rel K Φ σ H ρ δ ∧ PostG Φ σ H W (PE1 K Φ σ H ρ e Q) (ev F e ρ δ)
def ArgL (K : PySem.W.Frag) (Φ : Fm) (σ : L2.St) (H : Hp) (ρ : Env) : Es → List V → List D → Prop
  | .nil, [], [] => True
  | .cons e es, v :: vs, d :: ds => Dat2 K H (AvX Φ σ ρ (esc e)) (AvX Φ σ ρ (esc1 e)) v d ∧ ArgL K Φ σ H ρ es vs ds
  | _, _, _ => False
def tDs (F : Tab) (K : PySem.W.Frag) (W : WS) (es : Es) : TA := fun σ H Q => ∃ Φ ρ δ, Rel K Φ σ H ρ δ ∧ PostG Φ σ H W (fun ds _ H' => ∀ vs, ArgL K Φ σ H' ρ es vs ds → Q vs H') (evs F es ρ δ)
def tT (F : Tab) (K : PySem.W.Frag) (W : WS) (e : E) : TT := fun σ H Q => ∃ Φ ρ δ, Rel K Φ σ H ρ δ ∧ PostG Φ σ H W (fun b _ H' => Q b H') (evB F e ρ δ)

theorem PE.imp {X : Cx} {e : Expr} {t t' : TE} (h : PE X e t) (i : ∀ σ H Q, t' σ H Q → t σ H Q) : PE X e t' := ⟨fun pins s σ H Q I q => h.run pins s σ H Q I (i σ H Q q)⟩
theorem PT.imp {X : Cx} {e : Expr} {t t' : TT} (h : PT X e t) (i : ∀ σ H Q, t' σ H Q → t σ H Q) : PT X e t' := ⟨fun pins s σ H Q I q => h.run pins s σ H Q I (i σ H Q q)⟩
theorem PW.imp {X : Cx} {e : Expr} {t t' : TT} (h : PW X e t) (i : ∀ σ H Q, t' σ H Q → t σ H Q) : PW X e t' := ⟨fun w pins s σ H Q I q => h.run w pins s σ H Q I (i σ H Q q)⟩
theorem PA.imp {X : Cx} {e : List Expr} {t t' : TA} (h : PA X e t) (i : ∀ σ H Q, t' σ H Q → t σ H Q) : PA X e t' := ⟨fun p pins s σ H Q I q => h.run p pins s σ H Q I (i σ H Q q)⟩

section
variable {F : Tab} {K : PySem.W.Frag} {W : WS} {Φ : Fm} {σ : L2.St} {H H1 : Hp} {ρ : Env} {δ δ1 : DS} {α : Type} {P : α → DS → Hp → Prop}
theorem PostG.step {r : R α} (h : PostG Φ σ H W P r) (g : Gr Φ H H1) : PostG Φ σ H1 W P r := by
  cases r with
  | ok a δ' => exact fun H' g' ds => h H' (g.trans g') ds
  | er c δ' => exact fun H' g' ds => h H' (g.trans g') ds
  | bad => exact h
/-- an expression, then the rest -/
theorem PostG.bind {e : E} {f : D → DS → R α} {Q : VK} (r : Rel K Φ σ H ρ δ) (h : PostG Φ σ H W P ((ev F e ρ δ).bind f))
    (k : ∀ v H1 d δ1, Rel K Φ σ H1 ρ δ1 → Gr Φ H H1 → Dat2 K H1 (AvX Φ σ ρ (esc e)) (AvX Φ σ ρ (esc1 e)) v d → (fresh e = true → Fresh K Φ σ H H1 ρ (esc1 e) v d) → PostG Φ σ H1 W P (f d δ1) → Q v H1) : tD F K W e σ H Q := by
  refine ⟨Φ, ρ, δ, r, ?_⟩
  cases q : ev F e ρ δ with
  | ok d δ1 =>
    rw [q] at h
    intro H1 g ds v dat fr
    exact k v H1 d δ1 (r.grow g ds) g dat fr (PostG.step h g)
  | er c δ1 => rw [q] at h; exact h
  | bad => rw [q] at h; exact h
theorem PostG.binds {es : Es} {f : List D → DS → R α} {Q : List V → Hp → Prop} (r : Rel K Φ σ H ρ δ) (h : PostG Φ σ H W P ((evs F es ρ δ).bind f))
    (k : ∀ vs H1 ds δ1, Rel K Φ σ H1 ρ δ1 → Gr Φ H H1 → ArgL K Φ σ H1 ρ es vs ds → PostG Φ σ H1 W P (f ds δ1) → Q vs H1) : tDs F K W es σ H Q := by
  refine ⟨Φ, ρ, δ, r, ?_⟩
  cases q : evs F es ρ δ with
  | ok d δ1 =>
    rw [q] at h
    intro H1 g ds vs dat
    exact k vs H1 d δ1 (r.grow g ds) g dat (PostG.step h g)
  | er c δ1 => rw [q] at h; exact h
  | bad => rw [q] at h; exact h
theorem PostG.bindB {e : E} {f : Bool → DS → R α} {Q : Bool → Hp → Prop} (r : Rel K Φ σ H ρ δ) (h : PostG Φ σ H W P ((evB F e ρ δ).bind f))
    (k : ∀ b H1 δ1, Rel K Φ σ H1 ρ δ1 → Gr Φ H H1 → PostG Φ σ H1 W P (f b δ1) → Q b H1) : tT F K W e σ H Q := by
  refine ⟨Φ, ρ, δ, r, ?_⟩
  cases q : evB F e ρ δ with
  | ok d δ1 =>
    rw [q] at h
    intro H1 g ds
    exact k d H1 δ1 (r.grow g ds) g (PostG.step h g)
  | er c δ1 => rw [q] at h; exact h
  | bad => rw [q] at h; exact h
theorem esc1_sub : ∀ (e : E) (i : Nat), i ∈ esc1 e → i ∈ esc e
  | .ite c a b, i, h => by
    simp only [esc1, esc, List.mem_append] at h ⊢
    exact h.elim (fun h => .inl (esc1_sub a i h)) fun h => .inr (esc1_sub b i h)
  | .v j, i, h => by simp [esc1] at h
  | .ix a b, i, h => by simpa [esc1, esc] using h
  | .sl a b c, i, h => by simpa [esc1, esc] using h
  | .rv a, i, h => by simpa [esc1, esc] using h
  | .ca f es, i, h => by simpa [esc1, esc] using h
  | .cf f es, i, h => by simpa [esc1, esc] using h
  | .c0 f, i, h => by simp [esc1] at h
  | .dc f j es, i, h => by simpa [esc1, esc] using h
  | .bin o a b, i, h => by cases o <;> simpa [esc1, esc] using h
  | .bu o es, i, h => by cases o <;> simpa [esc1, esc] using h
  | .ls es, i, h => by simpa [esc1, esc] using h
  | .tu es, i, h => by simpa [esc1, esc] using h
  | .co e tg it c, i, h => by simpa [esc1, esc] using h
  | .na, i, h => by simp [esc1] at h
  | .dn, i, h => by simp [esc1] at h
  | .d1 k v, i, h => by simpa [esc1, esc] using h
  | .dg a k x, i, h => by simpa [esc1, esc] using h
  | .k _, i, h => by simp [esc1] at h
  | .gl _ _, i, h => by simp [esc1] at h
  | .neg _, i, h => by simp [esc1] at h
  | .no _, i, h => by simp [esc1] at h
  | .an _ _, i, h => by simp [esc1] at h
  | .or _ _, i, h => by simp [esc1] at h
  | .cm _ _ _, i, h => by simp [esc1] at h
  | .ch _ _ _, i, h => by simp [esc1] at h
  | .isn _ _, i, h => by simp [esc1] at h
  | .isb _ _ _, i, h => by simp [esc1] at h
  | .isi _ _, i, h => by simp [esc1] at h
theorem avE {e : E} {a : Addr} (h : AvX Φ σ ρ (esc e) a) : AvX Φ σ ρ (esc1 e) a := h.mono (esc1_sub e)
theorem Dat2.dat {e : E} {v : V} {d : D} (h : Dat2 K H (AvX Φ σ ρ (esc e)) (AvX Φ σ ρ (esc1 e)) v d) : Dat K H (AvX Φ σ ρ (esc e)) v d := Dat2.to (fun _ => avE) h
theorem ArgL.dat : ∀ {es : Es} {vs : List V} {ds : List D}, ArgL K Φ σ H ρ es vs ds → DatL K H (AvX Φ σ ρ (escs es)) vs ds
  | .nil, [], [], _ => DatL.nil
  | .cons e es, v :: vs, d :: ds, h => by
    simp only [ArgL] at h
    refine DatL.cons (Dat.mono (fun a o e _ n => ⟨e, fun z => n (z.mono fun i hi => ?_)⟩) d h.1.dat) (DatL.mono (fun a o e _ n => ⟨e, fun z => n (z.mono fun i hi => ?_)⟩) ds (ArgL.dat h.2))
    · simp only [escs, List.mem_append]; exact .inl hi
    · simp only [escs, List.mem_append]; exact .inr hi
  | .nil, _ :: _, _, h => by cases ‹List D› <;> simp [ArgL] at h
  | .nil, [], _ :: _, h => by simp [ArgL] at h
  | .cons _ _, [], _, h => by cases ‹List D› <;> simp [ArgL] at h
  | .cons _ _, _ :: _, [], h => by simp [ArgL] at h
theorem Gr.argL (g : Gr Φ H H1) (r : Rel K Φ σ H ρ δ) : ∀ {es : Es} {vs : List V} {ds : List D}, ArgL K Φ σ H ρ es vs ds → ArgL K Φ σ H1 ρ es vs ds
  | .nil, [], [], h => h
  | .cons e es, v :: vs, d :: ds, h => by
    simp only [ArgL] at h ⊢
    exact ⟨g.dat2 (r.drA _) (r.drA _) h.1, Gr.argL g r h.2⟩
  | .nil, _ :: _, _, h => by cases ‹List D› <;> simp [ArgL] at h
  | .nil, [], _ :: _, h => by simp [ArgL] at h
  | .cons _ _, [], _, h => by cases ‹List D› <;> simp [ArgL] at h
  | .cons _ _, _ :: _, [], h => by simp [ArgL] at h
/-- what stands for a value without objects -/
theorem PE1.scal {e : E} {Q : VK} {d : D} {H0 : Hp} {v : V} (s : scalar d = true) (h : PE1 K Φ σ H0 ρ e Q d δ1 H) (q : Dat K H (fun _ => False) v d) : Q v H :=
  h v (Dat.scal2 s q) fun _ e => by cases d <;> simp [isL] at e <;> simp [scalar, flat] at s
/-- a tuple's place is avoided by none -/
theorem tup_av {a : Addr} {xs : List V} {X : List Nat} (r : Rel K Φ σ H ρ δ) (e : H a = some (.tup xs)) : ¬ AvX Φ σ ρ X a := fun z => by
  obtain ⟨ys, e2⟩ := Av.lst r z.av
  rw [e] at e2; cases ys <;> cases e2
end

section
variable {F : Tab} {K : PySem.W.Frag} {W : WS} {Φ : Fm} {σ : L2.St} {H H2 : Hp} {ρ : Env} {δ δ2 : DS} {e : E} {Q : VK} {xs : List V} {ds : List D} {p : Addr}
theorem PE1.newL (r : Rel K Φ σ H ρ δ) (g : Gr Φ H H2) (r2 : Rel K Φ σ H2 ρ δ2) (q : ∀ H', Gr Φ H2 H' → DsOk Φ H' δ2 → PE1 K Φ σ H ρ e Q (.list ds) δ2 H') (l : DatL K H2 (AvX Φ σ ρ (esc1 e)) xs ds) (hp : H2 p = none) : Q (.ref p) (upd H2 p (.lst xs)) := by
  have nA : ∀ X, ¬ AvX Φ σ ρ X p := fun X z => Av.fresh r2 hp z.av
  have l2 : DatL K (upd H2 p (.lst xs)) (fun a => a = p ∨ AvX Φ σ ρ (esc1 e) a) xs ds := DatL.mono (fun a o e _ n => ⟨by rw [upd_ne (ne_of_none e hp)]; exact e, fun z => z.elim (ne_of_none e hp) n⟩) ds l
  refine q _ (Gr.new hp) (r2.ds.new hp) _ ?_ fun _ _ => ?_
  · simp only [Dat2]
    exact ⟨p, xs, rfl, upd_same, nA _, DatL.mono (fun a o e _ n => ⟨e, fun z => n (.inr z)⟩) ds l2⟩
  · exact ⟨p, rfl, g.freeR r r2.ds hp, xs, upd_same, l2⟩
/-- a new dict -/
theorem PE1.newD {o : Obj} {es : List KEnt} {kvs : List (D × D)} (r : Rel K Φ σ H ρ δ) (g : Gr Φ H H2) (r2 : Rel K Φ σ H2 ρ δ2) (q : ∀ H', Gr Φ H2 H' → DsOk Φ H' δ2 → PE1 K Φ σ H ρ e Q (.dict kvs) δ2 H') (gd : GoodD p o es) (l : DatP K H2 (AvX Φ σ ρ (esc1 e)) es kvs) (hp : H2 p = none) : Q (.ref p) (upd H2 p (DO p o)) := by
  have nA : ∀ X, ¬ AvX Φ σ ρ X p := fun X z => Av.fresh r2 hp z.av
  have l2 : DatP K (upd H2 p (DO p o)) (fun a => a = p ∨ AvX Φ σ ρ (esc1 e) a) es kvs := DatP.mono (fun a o e _ n => ⟨by rw [upd_ne (ne_of_none e hp)]; exact e, fun z => z.elim (ne_of_none e hp) n⟩) kvs l
  refine q _ (Gr.new hp) (r2.ds.new hp) _ ?_ fun _ _ => ?_
  · simp only [Dat2]
    exact ⟨p, o, es, rfl, upd_same, nA _, gd, DatP.mono (fun a o e _ n => ⟨e, fun z => n (.inr z)⟩) kvs l2⟩
  · exact ⟨p, rfl, g.freeR r r2.ds hp, o, es, upd_same, gd, l2⟩
theorem PE1.newT (r2 : Rel K Φ σ H2 ρ δ2) (q : ∀ H', Gr Φ H2 H' → DsOk Φ H' δ2 → PE1 K Φ σ H ρ e Q (.tuple ds) δ2 H') (l : DatL K H2 (AvX Φ σ ρ (esc1 e)) xs ds) (hp : H2 p = none) : Q (.ref p) (upd H2 p (.tup xs)) := by
  have nA : ∀ X, ¬ AvX Φ σ ρ X p := fun X z => Av.fresh r2 hp z.av
  have l2 : DatL K (upd H2 p (.tup xs)) (AvX Φ σ ρ (esc1 e)) xs ds := DatL.mono (fun a o e _ n => ⟨by rw [upd_ne (ne_of_none e hp)]; exact e, n⟩) ds l
  refine q _ (Gr.new hp) (r2.ds.new hp) _ ?_ fun _ e => nomatch e
  simp only [Dat2]
  exact ⟨p, xs, rfl, .inl ⟨upd_same, nA _⟩, l2⟩
/-- a tuple that stands already -/
theorem PE1.oldT (r2 : Rel K Φ σ H2 ρ δ2) (q : ∀ H', Gr Φ H2 H' → DsOk Φ H' δ2 → PE1 K Φ σ H ρ e Q (.tuple ds) δ2 H') {A : Addr → Prop} (h : (H2 p = some (.tup xs) ∧ ¬ A p) ∨ KTup K p xs) (l : DatL K H2 (AvX Φ σ ρ (esc1 e)) xs ds) : Q (.ref p) H2 := by
  refine q _ Gr.refl r2.ds _ ?_ fun _ e => nomatch e
  simp only [Dat2]
  exact ⟨p, xs, rfl, h.imp (fun z => ⟨z.1, tup_av r2 z.1⟩) id, l⟩
theorem AvX.sub {X Y : List Nat} (h : ∀ i ∈ Y, i ∈ X) {vs : List V} {es : List D} (l : DatL K H (AvX Φ σ ρ Y) vs es) : DatL K H (AvX Φ σ ρ X) vs es :=
  DatL.mono (fun a o e _ n => ⟨e, fun z => n (z.mono h)⟩) es l
theorem AvX.subP {X Y : List Nat} (h : ∀ i ∈ Y, i ∈ X) {vs : List KEnt} {es : List (D × D)} (l : DatP K H (AvX Φ σ ρ Y) vs es) : DatP K H (AvX Φ σ ρ X) vs es :=
  DatP.mono (fun a o e _ n => ⟨e, fun z => n (z.mono h)⟩) es l
theorem AvX.subD {X Y : List Nat} (h : ∀ i ∈ Y, i ∈ X) {v : V} {d : D} (l : Dat K H (AvX Φ σ ρ Y) v d) : Dat K H (AvX Φ σ ρ X) v d :=
  Dat.mono (fun a o e _ n => ⟨e, fun z => n (z.mono h)⟩) d l
end
theorem big_ok : big ≤ sizeLine := by rw [sizeLine_eq]; decide
theorem opD_add {x y d : D} (h : opD .add x y = some d) : (∃ i j, x = .int i ∧ y = .int j ∧ d = .int (i + j)) ∨ (∃ a b, x = .str a ∧ y = .str b ∧ a.length + b.length ≤ big ∧ d = .str (a ++ b)) ∨
    (∃ a b, x = .list a ∧ y = .list b ∧ a.length + b.length ≤ big ∧ d = .list (a ++ b)) ∨ (∃ a b, x = .tuple a ∧ y = .tuple b ∧ a.length + b.length ≤ big ∧ d = .tuple (a ++ b)) := by
  cases x <;> cases y <;> simp [opD, catS_eq] at h <;> simp [h]

/-! ### single expressions -/
section
variable {F : Tab} {W : WS} {X : Cx} {a b c : Expr} {ea eb ec : E} {pos : Pos}
theorem d_k {k : Const} {d : D} {j : Nat} (h : cmpK k = some d) : PE X (.Constant k j pos) (tD F X.K W (.k d)) := by
  cases k with
  | none => cases h; exact PE.imp pe_non fun σ H Q ⟨Φ, ρ, δ, r, q⟩ => PE1.scal rfl (q H Gr.refl r.ds) rfl
  | bool b => cases h; exact PE.imp pe_bl fun σ H Q ⟨Φ, ρ, δ, r, q⟩ => PE1.scal rfl (q H Gr.refl r.ds) rfl
  | int b => cases h; exact PE.imp pe_int fun σ H Q ⟨Φ, ρ, δ, r, q⟩ => PE1.scal rfl (q H Gr.refl r.ds) rfl
  | str b => cases h; exact PE.imp pe_str fun σ H Q ⟨Φ, ρ, δ, r, q⟩ => PE1.scal rfl (q H Gr.refl r.ds) rfl
  | float _ => cases h
  | complex _ _ => cases h
  | bytes _ => cases h
  | ellipsis => cases h
theorem d_v {i : Nat} {x : Str} (hN : X.N[i]? = some x) (hv : Vis X.env.scope x) (hd : (x == ("__debug__" : Str)) = false) (hcd : (x == ("__classdict__" : Str)) = false) : PE X (.Name x pos) (tD F X.K W (.v i)) := by
  refine PE.imp (pe_var hN hv hd hcd) fun σ H Q ⟨Φ, ρ, δ, r, q⟩ => ?_
  simp only [ev, look] at q
  cases e : ρ[i]? with
  | none => rw [e] at q; exact q.elim
  | some s =>
    rw [e] at q
    cases s with
    | va d =>
      obtain ⟨v, e1, e2⟩ := r.va i d e
      refine ⟨v, e1, q H Gr.refl r.ds v ?_ (fun z => nomatch z)⟩
      refine Dat2.mono (fun a o e _ n => ⟨e, fun z => n z.av⟩) (fun a o e _ n => ⟨e, fun z => n z.av⟩) e2.to2
    | ow d =>
      obtain ⟨b, e1, na, e2, e4⟩ := r.ow i d e
      refine ⟨_, e1, q H Gr.refl r.ds _ ?_ (fun z => nomatch z)⟩
      refine Obj1.dat2 (fun z => ?_) (e2.mono (fun _ h => h) (fun a o e _ n => ⟨e, fun z => n z.av⟩))
      rcases z with z | ⟨j, d, n, z1, z2⟩
      · exact na z
      · exact n (by simp only [esc, List.mem_singleton]; exact r.inj j i d _ b z1 e z2 e1)
    | no => exact q.elim
    | dr => exact q.elim
theorem d_gl {x : Str} {d : D} {u : Value} {v : V} (hg : Gl X x) (hm : X.mg x = some u) (rv : RelV v u) (hd : (x == ("__debug__" : Str)) = false) (hv : ∀ H A, Dat X.K H A v d) : PE X (.Name x pos) (tD F X.K W (.gl x d)) :=
  PE.imp (pe_glob hg hm rv hd) fun σ H Q ⟨Φ, ρ, δ, r, q⟩ => by
    have q2 := q H Gr.refl r.ds v
    refine q2 ?_ (fun z => nomatch z)
    exact Dat2.mono (fun a o e _ n => ⟨e, fun z => n z⟩) (fun a o e _ n => ⟨e, fun z => n z⟩) (hv H _).to2

theorem d_add (ha : PE X a (tD F X.K W ea)) (hb : PE X b (tD F X.K W eb)) : PE X (.BinOp a .Add b pos) (tD F X.K W (.bin .add ea eb)) := by
  refine PE.imp (pe_op (op_add.or (op_add_str.or (op_cat.or op_catA))) ha hb) fun σ H Q ⟨Φ, ρ, δ, r, q⟩ => ?_
  simp only [ev] at q
  refine PostG.bind r q fun x H1 d1 δ1 r1 g1 q1 _ q => ?_
  refine PostG.bind r1 q fun y H2 d2 δ2 r2 g2 q2 _ q => ?_
  have q1 := g2.dat2 (r1.drA _) (r1.drA _) q1
  cases e : opD .add d1 d2 with
  | none => rw [e] at q; exact q.elim
  | some d =>
    rw [e] at q
    have s1 : ∀ i ∈ esc1 ea, i ∈ esc1 (.bin .add ea eb) := fun i hi => by simp only [esc1, List.mem_append]; exact .inl hi
    have s2 : ∀ i ∈ esc1 eb, i ∈ esc1 (.bin .add ea eb) := fun i hi => by simp only [esc1, List.mem_append]; exact .inr hi
    rcases opD_add e with ⟨i, j, rfl, rfl, rfl⟩ | ⟨i, j, rfl, rfl, hz, rfl⟩ | ⟨i, j, rfl, rfl, hz, rfl⟩ | ⟨i, j, rfl, rfl, hz, rfl⟩
    · simp only [Dat2, Dat] at q1 q2
      subst q1; subst q2
      exact .inl ⟨_, _, rfl, rfl, PE1.scal rfl (q H2 Gr.refl r2.ds) (by simp [Dat])⟩
    · simp only [Dat2, Dat] at q1 q2
      subst q1; subst q2
      exact .inr (.inl ⟨_, _, rfl, rfl, Nat.le_trans hz big_ok, PE1.scal rfl (q H2 Gr.refl r2.ds) (by simp [Dat])⟩)
    · simp only [Dat2] at q1 q2
      obtain ⟨p1, xs, rfl, h1, n1, l1⟩ := q1
      obtain ⟨p2, ys, rfl, h2, n2, l2⟩ := q2
      refine .inr (.inr (.inl ⟨p1, p2, xs, ys, rfl, rfl, h1, h2, by rw [l1.length, l2.length]; exact Nat.le_trans hz big_ok, fun p hp => ?_⟩))
      exact PE1.newL r (g1.trans g2) r2 q ((AvX.sub s1 l1).append (AvX.sub s2 l2)) hp
    · simp only [Dat2] at q1 q2
      obtain ⟨p1, xs, rfl, h1, l1⟩ := q1
      obtain ⟨p2, ys, rfl, h2, l2⟩ := q2
      have l3 := (AvX.sub s1 l1).append (AvX.sub s2 l2)
      refine .inr (.inr (.inr ⟨p1, p2, xs, ys, rfl, rfl, ktSq h1, ktSq h2, by rw [l1.length, l2.length]; exact Nat.le_trans hz big_ok, fun e => ?_, fun _ e => ?_, fun _ _ p hp => PE1.newT r2 q l3 hp⟩))
      · subst e; exact PE1.oldT r2 q h2 l3
      · subst e
        rw [List.append_nil] at l3
        exact PE1.oldT r2 q h1 l3
end
end Tk
set_option linter.all false
set_option Elab.async false
set_option maxRecDepth 100000
set_option maxHeartbeats 1000000
namespace Tk
open PySem L2

theorem opD_sub {x y d : D} (h : opD .sub x y = some d) : ∃ i j, x = .int i ∧ y = .int j ∧ d = .int (i - j) := by
  cases x <;> cases y <;> simp [opD] at h <;> simp [h]
theorem opD_mul {x y d : D} (h : opD .mul x y = some d) : (∃ i j, x = .int i ∧ y = .int j ∧ CMul i j ∧ d = .int (i * j)) ∨ (∃ xs k, x = .list xs ∧ y = .int k ∧ (k ≤ 1000 ∧ -1000 ≤ k ∧ xs.length ≤ 1000) ∧ d = .list (List.replicate k.toNat xs).flatten) ∨ (∃ z k, x = .str z ∧ y = .int k ∧ (0 ≤ k ∧ k ≤ 100000 ∧ z.length ≤ 100) ∧ d = .str (Txt.mul z k)) := by
  cases x <;> cases y <;> simp [opD] at h
  · obtain ⟨⟨h1, h2⟩, rfl⟩ := h
    exact .inl ⟨_, _, rfl, rfl, .inl ⟨by omega, by omega⟩, rfl⟩
  · obtain ⟨h1, rfl⟩ := h
    first | exact .inr (.inr ⟨_, _, rfl, rfl, h1, by rw [mulS_eq h1.1]⟩) | exact .inr (.inl ⟨_, _, rfl, rfl, h1, rfl⟩)
  · obtain ⟨h1, rfl⟩ := h
    first | exact .inr (.inl ⟨_, _, rfl, rfl, h1, rfl⟩) | exact .inr (.inr ⟨_, _, rfl, rfl, h1, by rw [mulS_eq h1.1]⟩)
/-- text * number -/
def rMulS : R2 := fun x y H Q => ∃ (z : Str) (k : Int), x = .str z ∧ y = .int k ∧ 0 ≤ k ∧ k ≤ 100000 ∧ z.length ≤ 100 ∧ Q (.str (Txt.mul z k)) H
theorem op_mulS {X : Cx} : OpR X (binaryOp .Mult) rMulS := by
  intro pins s σ H x y v u Q I rx ry h
  obtain ⟨z, k, rfl, rfl, h1, h2, h3, q⟩ := h
  obtain ⟨t, rfl⟩ := rx
  obtain ⟨t2, rfl⟩ := ry
  have hk : z.length * k.toNat ≤ 100 * 100000 := Nat.mul_le_mul h3 (by omega)
  refine PySem.SB.mul ⟨by simp; omega, fun g1 g2 g3 => ?_, fun g1 g2 => ?_⟩ fun t' kk => ⟨.str _, H, I.tok kk, ⟨t', rfl⟩, q⟩
  · have g4 : (100000 : Int) ≤ (2 ^ 63 - 1) / k := by
      rw [Int.le_ediv_iff_mul_le (by omega)]
      omega
    omega
  · unfold Builtin.Str.tooLong
    rw [sizeLine_eq]
    simp
    omega
theorem opD_fdiv {x y d : D} (h : opD .fdiv x y = some d) : ∃ i j, x = .int i ∧ y = .int j ∧ CDiv i j ∧ d = .int (i / j) := by
  cases x <;> cases y <;> simp [opD] at h
  obtain ⟨h1, rfl⟩ := h
  exact ⟨_, _, rfl, rfl, h1, rfl⟩
theorem opD_mod {x y d : D} (h : opD .mod x y = some d) : ∃ i j, x = .int i ∧ y = .int j ∧ 0 < j ∧ d = .int (i % j) := by
  cases x <;> cases y <;> simp [opD] at h
  obtain ⟨h1, rfl⟩ := h
  exact ⟨_, _, rfl, rfl, h1, rfl⟩
theorem opD_pow {x y d : D} (h : opD .pow x y = some d) : ∃ i j, x = .int i ∧ y = .int j ∧ CPow i j ∧ d = .int (i ^ j.toNat) := by
  cases x <;> cases y <;> simp [opD] at h
  obtain ⟨⟨h1, h2, h3⟩, rfl⟩ := h
  exact ⟨_, _, rfl, rfl, ⟨h1, by omega, h3⟩, rfl⟩

section
variable {F : Tab} {W : WS} {X : Cx} {a b c : Expr} {ea eb ec : E} {pos : Pos}
theorem d_sub (ha : PE X a (tD F X.K W ea)) (hb : PE X b (tD F X.K W eb)) : PE X (.BinOp a .Sub b pos) (tD F X.K W (.bin .sub ea eb)) := by
  refine PE.imp (pe_op op_sub ha hb) fun σ H Q ⟨Φ, ρ, δ, r, q⟩ => ?_
  simp only [ev] at q
  refine PostG.bind r q fun x H1 d1 δ1 r1 g1 q1 _ q => PostG.bind r1 q fun y H2 d2 δ2 r2 g2 q2 _ q => ?_
  cases e : opD .sub d1 d2 with
  | none => rw [e] at q; exact q.elim
  | some d =>
    rw [e] at q
    obtain ⟨i, j, rfl, rfl, rfl⟩ := opD_sub e
    simp only [Dat2, Dat] at q1 q2
    subst q1; subst q2
    exact ⟨_, _, rfl, rfl, PE1.scal rfl (q H2 Gr.refl r2.ds) (by simp [Dat])⟩
theorem d_fdiv (ha : PE X a (tD F X.K W ea)) (hb : PE X b (tD F X.K W eb)) : PE X (.BinOp a .FloorDiv b pos) (tD F X.K W (.bin .fdiv ea eb)) := by
  refine PE.imp (pe_op op_fdiv ha hb) fun σ H Q ⟨Φ, ρ, δ, r, q⟩ => ?_
  simp only [ev] at q
  refine PostG.bind r q fun x H1 d1 δ1 r1 g1 q1 _ q => PostG.bind r1 q fun y H2 d2 δ2 r2 g2 q2 _ q => ?_
  cases e : opD .fdiv d1 d2 with
  | none => rw [e] at q; exact q.elim
  | some d =>
    rw [e] at q
    obtain ⟨i, j, rfl, rfl, hc, rfl⟩ := opD_fdiv e
    simp only [Dat2, Dat] at q1 q2
    subst q1; subst q2
    exact ⟨_, _, rfl, rfl, hc, PE1.scal rfl (q H2 Gr.refl r2.ds) (by simp [Dat])⟩
theorem d_mod (ha : PE X a (tD F X.K W ea)) (hb : PE X b (tD F X.K W eb)) : PE X (.BinOp a .Mod b pos) (tD F X.K W (.bin .mod ea eb)) := by
  refine PE.imp (pe_op op_mod ha hb) fun σ H Q ⟨Φ, ρ, δ, r, q⟩ => ?_
  simp only [ev] at q
  refine PostG.bind r q fun x H1 d1 δ1 r1 g1 q1 _ q => PostG.bind r1 q fun y H2 d2 δ2 r2 g2 q2 _ q => ?_
  cases e : opD .mod d1 d2 with
  | none => rw [e] at q; exact q.elim
  | some d =>
    rw [e] at q
    obtain ⟨i, j, rfl, rfl, hc, rfl⟩ := opD_mod e
    simp only [Dat2, Dat] at q1 q2
    subst q1; subst q2
    exact ⟨_, _, rfl, rfl, hc, PE1.scal rfl (q H2 Gr.refl r2.ds) (by simp [Dat])⟩
theorem d_pow (ha : PE X a (tD F X.K W ea)) (hb : PE X b (tD F X.K W eb)) : PE X (.BinOp a .Pow b pos) (tD F X.K W (.bin .pow ea eb)) := by
  refine PE.imp (pe_op op_pow ha hb) fun σ H Q ⟨Φ, ρ, δ, r, q⟩ => ?_
  simp only [ev] at q
  refine PostG.bind r q fun x H1 d1 δ1 r1 g1 q1 _ q => PostG.bind r1 q fun y H2 d2 δ2 r2 g2 q2 _ q => ?_
  cases e : opD .pow d1 d2 with
  | none => rw [e] at q; exact q.elim
  | some d =>
    rw [e] at q
    obtain ⟨i, j, rfl, rfl, hc, rfl⟩ := opD_pow e
    simp only [Dat2, Dat] at q1 q2
    subst q1; subst q2
    exact ⟨_, _, rfl, rfl, hc, PE1.scal rfl (q H2 Gr.refl r2.ds) (by simp [Dat])⟩
theorem d_mul (ha : PE X a (tD F X.K W ea)) (hb : PE X b (tD F X.K W eb)) : PE X (.BinOp a .Mult b pos) (tD F X.K W (.bin .mul ea eb)) := by
  refine PE.imp (pe_op (op_mul.or (op_rep.or op_mulS)) ha hb) fun σ H Q ⟨Φ, ρ, δ, r, q⟩ => ?_
  simp only [ev] at q
  refine PostG.bind r q fun x H1 d1 δ1 r1 g1 q1 _ q => PostG.bind r1 q fun y H2 d2 δ2 r2 g2 q2 _ q => ?_
  have q1 := g2.dat2 (r1.drA _) (r1.drA _) q1
  cases e : opD .mul d1 d2 with
  | none => rw [e] at q; exact q.elim
  | some d =>
    rw [e] at q
    rcases opD_mul e with ⟨i, j, rfl, rfl, hc, rfl⟩ | ⟨i, j, rfl, rfl, ⟨h1, h2, h3⟩, rfl⟩ | ⟨i, j, rfl, rfl, ⟨h1, h2, h3⟩, rfl⟩
    · simp only [Dat2, Dat] at q1 q2
      subst q1; subst q2
      exact .inl ⟨_, _, rfl, rfl, hc, PE1.scal rfl (q H2 Gr.refl r2.ds) (by simp [Dat])⟩
    · simp only [Dat2, Dat] at q1 q2
      obtain ⟨p1, xs, rfl, e1, n1, l1⟩ := q1
      subst q2
      have hz : xs.length * j.toNat ≤ 1000 * 1000 := Nat.mul_le_mul (by rw [l1.length]; exact h3) (by omega)
      refine .inr <| .inl ⟨p1, j, xs, rfl, rfl, e1, by omega, by omega, Nat.le_trans hz (by rw [sizeLine_eq]; decide), fun p hp => ?_⟩
      exact PE1.newL r (g1.trans g2) r2 q ((AvX.sub (fun i hi => by simpa [esc1] using hi) l1).rep _) hp
    · simp only [Dat2, Dat] at q1 q2
      subst q1; subst q2
      exact .inr <| .inr ⟨_, _, rfl, rfl, h1, h2, h3, PE1.scal rfl (q H2 Gr.refl r2.ds) (by simp [Dat])⟩
theorem d_neg (ha : PE X a (tD F X.K W ea)) : PE X (.UnaryOp .USub a pos) (tD F X.K W (.neg ea)) := by
  refine PE.imp (pe_un un_neg ha) fun σ H Q ⟨Φ, ρ, δ, r, q⟩ => ?_
  simp only [ev] at q
  refine PostG.bind r q fun x H1 d1 δ1 r1 g1 q1 _ q => ?_
  cases d1 with
  | int i =>
    simp only [Dat2, Dat] at q1
    subst q1
    exact ⟨_, rfl, PE1.scal rfl (q H1 Gr.refl r1.ds) (by simp [Dat])⟩
  | _ => exact q.elim
theorem d_no (ha : PE X a (tD F X.K W ea)) : PE X (.UnaryOp .Not a pos) (tD F X.K W (.no ea)) := by
  refine PE.imp (pe_not ha) fun σ H Q ⟨Φ, ρ, δ, r, q⟩ => ?_
  simp only [ev] at q
  refine PostG.bind r q fun x H1 d1 δ1 r1 g1 q1 _ q => ?_
  cases d1 with
  | bool i =>
    simp only [Dat2, Dat] at q1
    subst q1
    exact ⟨_, rfl, PE1.scal rfl (q H1 Gr.refl r1.ds) (by simp [Dat])⟩
  | _ => exact q.elim
theorem d_andN {vs : List Expr} (ha : PE X a (tD F X.K W ea)) (hb : PE X (.BoolOp .And (b :: vs) pos) (tD F X.K W eb)) : PE X (.BoolOp .And (a :: b :: vs) pos) (tD F X.K W (.an ea eb)) := by
  refine PE.imp (pe_and ha hb) fun σ H Q ⟨Φ, ρ, δ, r, q⟩ => ?_
  simp only [ev] at q
  refine PostG.bind r q fun x H1 d1 δ1 r1 g1 q1 _ q => ?_
  cases d1 with
  | bool i =>
    simp only [Dat2, Dat] at q1
    subst q1
    refine ⟨_, rfl, ?_⟩
    cases i with
    | false => exact PE1.scal rfl (q H1 Gr.refl r1.ds) (by simp [Dat])
    | true =>
      rw [if_pos rfl]
      refine PostG.bind r1 q fun y H2 d2 δ2 r2 g2 q2 _ q => ?_
      cases d2 with
      | bool j =>
        simp only [Dat2, Dat] at q2
        subst q2
        exact PE1.scal rfl (q H2 Gr.refl r2.ds) (by simp [Dat])
      | _ => exact q.elim
  | _ => exact q.elim
theorem d_orN {vs : List Expr} (ha : PE X a (tD F X.K W ea)) (hb : PE X (.BoolOp .Or (b :: vs) pos) (tD F X.K W eb)) : PE X (.BoolOp .Or (a :: b :: vs) pos) (tD F X.K W (.or ea eb)) := by
  refine PE.imp (pe_or ha hb) fun σ H Q ⟨Φ, ρ, δ, r, q⟩ => ?_
  simp only [ev] at q
  refine PostG.bind r q fun x H1 d1 δ1 r1 g1 q1 _ q => ?_
  cases d1 with
  | bool i =>
    simp only [Dat2, Dat] at q1
    subst q1
    refine ⟨_, rfl, ?_⟩
    cases i with
    | true => exact PE1.scal rfl (q H1 Gr.refl r1.ds) (by simp [Dat])
    | false =>
      rw [if_neg (by decide)]
      refine PostG.bind r1 q fun y H2 d2 δ2 r2 g2 q2 _ q => ?_
      cases d2 with
      | bool j =>
        simp only [Dat2, Dat] at q2
        subst q2
        exact PE1.scal rfl (q H2 Gr.refl r2.ds) (by simp [Dat])
      | _ => exact q.elim
  | _ => exact q.elim

/-! ### comparisons -/
theorem eqV_eqv {K : PySem.W.Frag} {H : Hp} {A : Addr → Prop} {v u : V} {d e : D} (hd : flat d = true) (he : flat e = true) (q : Dat K H A v d) (q' : Dat K H A u e) : eqV v u = PyData.eqv d e := by
  cases d <;> simp [flat] at hd <;> cases e <;> simp [flat] at he <;> simp only [Dat] at q q' <;> subst q <;> subst q' <;> rfl
theorem flatV_of {K : PySem.W.Frag} {H : Hp} {A : Addr → Prop} {v : V} {d : D} (hd : flat d = true) (q : Dat K H A v d) : flatV v = true := by
  cases d <;> simp [flat] at hd <;> simp only [Dat] at q <;> subst q <;> rfl
theorem flatL {K : PySem.W.Frag} {H : Hp} {A : Addr → Prop} {v : V} {d : D} (hd : flat d = true) (q : Dat K H A v d) : ∀ {xs : List V} {ds : List D}, DatL K H A xs ds → ds.all flat = true → xs.all flatV = true ∧ inV v xs = ds.any fun z => PyData.eqv z d
  | [], [], _, _ => ⟨rfl, rfl⟩
  | [], _ :: _, h, _ => by simp [DatL] at h
  | _ :: _, [], h, _ => by simp [DatL] at h
  | x :: xs, e :: es, h, f => by
    simp only [DatL] at h
    simp only [List.all_cons, Bool.and_eq_true] at f
    obtain ⟨h1, h2⟩ := flatL hd q h.2 f.2
    refine ⟨by simp only [List.all_cons, Bool.and_eq_true]; exact ⟨flatV_of f.1 h.1, h1⟩, ?_⟩
    have e1 := eqV_eqv f.1 hd h.1 q
    unfold inV at h2 ⊢
    simp only [List.any_cons, h2, e1]
/-- the rule of a comparison -/
def rCm (K : PySem.W.Frag) : CO → R2
  | .eq => rEqD K
  | .ne => rNeD K
  | .lt => rI0 fun i j => .bl (decide (i < j))
  | .le => rI0 fun i j => .bl (decide (i ≤ j))
  | .gt => rI0 fun i j => .bl (decide (j < i))
  | .ge => rI0 fun i j => .bl (decide (j ≤ i))
  | .isin => fun x y H Q => rInD K x y H Q ∨ rIn K false x y H Q ∨ rInN K false x y H Q
  | .nin => fun x y H Q => rNotInD K x y H Q ∨ rIn K true x y H Q ∨ rInN K true x y H Q
theorem op_cm {o : CmpOp} {o' : CO} (h : cmpCO o = some o') (hu : X.A.units + 65 < cLine) : OpR X (compareOp o) (rCm X.K o') := by
  cases o <;> simp only [cmpCO, Option.some.injEq, reduceCtorEq] at h <;> subst h
  · exact op_eqD (by omega)
  · exact op_neD (by omega)
  · exact op_lt
  · exact op_le
  · exact op_gt
  · exact op_ge
  · exact (op_inD hu).or (op_in_seq.or (op_inN hu))
  · exact (op_notInD hu).or (op_notIn_seq.or (op_notInN hu))
theorem rCm_ok {K : PySem.W.Frag} {H : Hp} {A : Addr → Prop} {o : CO} {x y : V} {d e : D} {b : Bool} {Q : VK} (hx : Dat K H A x d) (hy : Dat K H A y e) (h : cmD o d e = some b) (q : Q (.bl b) H) : rCm K o x y H Q := by
  cases o with
  | eq =>
    simp only [cmD] at h
    split at h
    · rename_i hs
      injection h with h; subst h
      rw [Bool.and_eq_true] at hs
      exact ⟨d, e, hx.dps hs.1, hy.dps hs.2, hs.1, hs.2, q⟩
    · cases h
  | ne =>
    simp only [cmD] at h
    split at h
    · rename_i hs
      injection h with h; subst h
      rw [Bool.and_eq_true] at hs
      exact ⟨d, e, hx.dps hs.1, hy.dps hs.2, hs.1, hs.2, q⟩
    · cases h
  | lt =>
    cases d <;> cases e <;> simp [cmD] at h
    simp only [Dat] at hx hy; subst hx; subst hy; subst h
    exact ⟨_, _, rfl, rfl, q⟩
  | le =>
    cases d <;> cases e <;> simp [cmD] at h
    simp only [Dat] at hx hy; subst hx; subst hy; subst h
    exact ⟨_, _, rfl, rfl, q⟩
  | gt =>
    cases d <;> cases e <;> simp [cmD] at h
    simp only [Dat] at hx hy; subst hx; subst hy; subst h
    exact ⟨_, _, rfl, rfl, q⟩
  | ge =>
    cases d <;> cases e <;> simp [cmD] at h
    simp only [Dat] at hx hy; subst hx; subst hy; subst h
    exact ⟨_, _, rfl, rfl, q⟩
  | isin =>
    cases e with
    | list es =>
      simp only [cmD] at h
      split at h
      · rename_i hs
        injection h with h; subst h
        rw [Bool.and_eq_true] at hs
        exact .inl ⟨d, es, hx.dps hs.1, hy.dps hs.2, hs.1, hs.2, q⟩
      · cases h
    | tuple es =>
      simp only [cmD] at h
      split at h
      · rename_i hs
        injection h with h; subst h
        rw [Bool.and_eq_true] at hs
        simp only [Dat] at hy
        obtain ⟨p, xs, rfl, e1, l⟩ := hy
        obtain ⟨h1, h2⟩ := flatL hs.1 hx l hs.2
        exact .inr (.inl ⟨p, xs, rfl, .inr (ktSq e1), flatV_of hs.1 hx, h1, by rw [h2]; exact q⟩)
      · cases h
    | dict kvs =>
      simp only [cmD] at h
      split at h
      · rename_i hk
        injection h with h; subst h
        obtain ⟨k, k1, k2, k3⟩ := isKey_key hk
        obtain ⟨b, rfl, kb⟩ := key8_of k3 k1 k2 hx
        simp only [Dat] at hy
        obtain ⟨a, o, xs, rfl, e1, n1, g, l⟩ := hy
        refine .inr (.inr ⟨a, b, xs, k, rfl, rfl, ⟨o, e1, g, l.keys8⟩, kb, ?_⟩)
        have hq := DatP.get k1 l
        cases hd : dget kvs d with
        | none => rw [hd] at hq q; rw [hq]; exact q
        | some z =>
          rw [hd] at hq q
          obtain ⟨v, hv, _⟩ := hq
          rw [hv]; exact q
      · cases h
    | _ => simp [cmD] at h
  | nin =>
    cases e with
    | list es =>
      simp only [cmD] at h
      split at h
      · rename_i hs
        injection h with h; subst h
        rw [Bool.and_eq_true] at hs
        exact .inl ⟨d, es, hx.dps hs.1, hy.dps hs.2, hs.1, hs.2, q⟩
      · cases h
    | tuple es =>
      simp only [cmD] at h
      split at h
      · rename_i hs
        injection h with h; subst h
        rw [Bool.and_eq_true] at hs
        simp only [Dat] at hy
        obtain ⟨p, xs, rfl, e1, l⟩ := hy
        obtain ⟨h1, h2⟩ := flatL hs.1 hx l hs.2
        exact .inr (.inl ⟨p, xs, rfl, .inr (ktSq e1), flatV_of hs.1 hx, h1, by rw [h2]; exact q⟩)
      · cases h
    | dict kvs =>
      simp only [cmD] at h
      split at h
      · rename_i hk
        injection h with h; subst h
        obtain ⟨k, k1, k2, k3⟩ := isKey_key hk
        obtain ⟨b, rfl, kb⟩ := key8_of k3 k1 k2 hx
        simp only [Dat] at hy
        obtain ⟨a, o, xs, rfl, e1, n1, g, l⟩ := hy
        refine .inr (.inr ⟨a, b, xs, k, rfl, rfl, ⟨o, e1, g, l.keys8⟩, kb, ?_⟩)
        have hq := DatP.get k1 l
        cases hd : dget kvs d with
        | none => rw [hd] at hq q; rw [hq]; exact q
        | some z =>
          rw [hd] at hq q
          obtain ⟨v, hv, _⟩ := hq
          rw [hv]; exact q
      · cases h
    | _ => simp [cmD] at h
/-- both operands, then a bool -/
theorem cm_run {K : PySem.W.Frag} {o : CO} {Φ : Fm} {σ : L2.St} {H : Hp} {ρ : Env} {δ : DS} {α : Type} {P : α → DS → Hp → Prop} {f : Bool → DS → R α} {Q : VK} (r : Rel K Φ σ H ρ δ)
    (q : PostG Φ σ H W P (((ev F ea ρ δ).bind fun x δ => (ev F eb ρ δ).bind fun y δ => R.ofOpt δ (cmD o x y)).bind f))
    (k : ∀ b H1 δ1, Rel K Φ σ H1 ρ δ1 → Gr Φ H H1 → PostG Φ σ H1 W P (f b δ1) → Q (.bl b) H1) : tOp (rCm K o) (tD F K W ea) (tD F K W eb) σ H Q := by
  have e1 : ((ev F ea ρ δ).bind fun x δ => (ev F eb ρ δ).bind fun y δ => R.ofOpt δ (cmD o x y)).bind f = (ev F ea ρ δ).bind fun x δ => (ev F eb ρ δ).bind fun y δ => (R.ofOpt δ (cmD o x y)).bind f := by
    cases ev F ea ρ δ with
    | ok x δ =>
      simp only [R.bind_ok]
      cases ev F eb ρ δ <;> rfl
    | er c δ => rfl
    | bad => rfl
  rw [e1] at q
  refine PostG.bind r q fun x H1 d1 δ1 r1 g1 q1 _ q => PostG.bind r1 q fun y H2 d2 δ2 r2 g2 q2 _ q => ?_
  have q1 := g2.dat2 (r1.drA _) (r1.drA _) q1
  cases e : cmD o d1 d2 with
  | none => rw [e] at q; exact q.elim
  | some b =>
    rw [e] at q
    refine rCm_ok (A := AvX Φ σ ρ (esc ea ++ esc eb)) (AvX.subD (fun i hi => by simp [hi]) q1.dat) (AvX.subD (fun i hi => by simp [hi]) q2.dat) e (k b H2 δ2 r2 (g1.trans g2) q)
theorem d_cm {o : CmpOp} {o' : CO} (h : cmpCO o = some o') (hu : X.A.units + 65 < cLine) (ha : PE X a (tD F X.K W ea)) (hb : PE X b (tD F X.K W eb)) (hm : behindInMarks o b = false) : PE X (.Compare a [o] [b] pos) (tD F X.K W (.cm o' ea eb)) := by
  refine PE.imp (pe_cmpR (op_cm h hu) ha hb hm) fun σ H Q ⟨Φ, ρ, δ, r, q⟩ => ?_
  refine cm_run (f := fun b δ => .ok (.bool b) δ) r (P := PE1 X.K Φ σ H ρ (.cm o' ea eb) Q) ?_ fun b H1 δ1 r1 g1 q => PE1.scal rfl (q H1 Gr.refl r1.ds) (by simp [Dat])
  have e : ev F (.cm o' ea eb) ρ δ = (((ev F ea ρ δ).bind fun x δ => (ev F eb ρ δ).bind fun y δ => R.ofOpt δ (cmD o' x y)).bind fun b δ => .ok (.bool b) δ) := by
    simp only [ev]
    cases ev F ea ρ δ with
    | ok x δ =>
      simp only [R.bind_ok]
      cases ev F eb ρ δ with
      | ok y δ =>
        simp only [R.bind_ok]
        cases cmD o' x y <;> rfl
      | er _ _ => rfl
      | bad => rfl
    | er c δ => rfl
    | bad => rfl
  rw [← e]
  exact q
theorem dt_cm {o : CmpOp} {o' : CO} (h : cmpCO o = some o') (hu : X.A.units + 65 < cLine) (ha : PE X a (tD F X.K W ea)) (hb : PE X b (tD F X.K W eb)) (hm : behindInMarks o b = false) : PT X (.Compare a [o] [b] pos) (tT F X.K W (.cm o' ea eb)) := by
  refine PT.imp (pt_cmpR (op_cm h hu) ha hb hm) fun σ H Q ⟨Φ, ρ, δ, r, q⟩ => ?_
  refine cm_run (f := fun b δ => .ok b δ) r (P := fun b _ H' => Q b H') ?_ fun b H1 δ1 r1 g1 q => ⟨b, rfl, q H1 Gr.refl r1.ds⟩
  have e : evB F (.cm o' ea eb) ρ δ = (((ev F ea ρ δ).bind fun x δ => (ev F eb ρ δ).bind fun y δ => R.ofOpt δ (cmD o' x y)).bind fun b δ => .ok b δ) := by
    simp only [evB, ev]
    cases ev F ea ρ δ with
    | ok x δ =>
      simp only [R.bind_ok]
      cases ev F eb ρ δ with
      | ok y δ =>
        simp only [R.bind_ok]
        cases cmD o' x y <;> rfl
      | er _ _ => rfl
      | bad => rfl
    | er c δ => rfl
    | bad => rfl
  rw [← e]
  exact q
end
end Tk
set_option linter.all false
set_option Elab.async false
set_option maxRecDepth 100000
set_option maxHeartbeats 1000000
namespace Tk
open PySem L2

section
variable {F : Tab} {W : WS} {X : Cx} {a b c : Expr} {e ea eb ec : E} {pos : Pos}
theorem tT_tD {K : PySem.W.Frag} {σ : L2.St} {H : Hp} {Q : Bool → Hp → Prop} (h : tT F K W e σ H Q) : tD F K W e σ H (fun x H' => ∃ k, x = .bl k ∧ Q k H') := by
  obtain ⟨Φ, ρ, δ, r, q⟩ := h
  unfold evB at q
  refine PostG.bind r q fun v H1 d δ1 r1 g1 q1 _ q => ?_
  cases d with
  | bool b =>
    simp only [Dat2, Dat] at q1
    subst q1
    exact ⟨b, rfl, q H1 Gr.refl r1.ds⟩
  | _ => exact q.elim
/-- a test by its value -/
theorem dt_val {x : Expr} (h : PE X x (tD F X.K W e)) (he : ∀ whole, isTrue x X.env whole = (do let v ← whole; standAt x.pos; holding [v] (truthy v))) : PT X x (tT F X.K W e) :=
  PT.imp (pt_val h he) fun _ _ _ q => tT_tD q

theorem i_ch {K : PySem.W.Frag} {σ : L2.St} {H : Hp} {Q : VK} (h : tD F K W (.ch ea eb ec) σ H Q) : tChain (rI0 fun i j => .bl (decide (i ≤ j))) (rI0 fun i j => .bl (decide (i ≤ j))) (tD F K W ea) (tD F K W eb) (tD F K W ec) σ H Q := by
  obtain ⟨Φ, ρ, δ, r, q⟩ := h
  simp only [ev] at q
  refine PostG.bind r q fun x H1 d1 δ1 r1 g1 q1 _ q => PostG.bind r1 q fun y H2 d2 δ2 r2 g2 q2 _ q => ?_
  cases d1 with
  | int i =>
    cases d2 with
    | int j =>
      simp only [Dat2, Dat] at q1 q2
      subst q1; subst q2
      refine ⟨i, j, rfl, rfl, decide (i ≤ j), rfl, ?_⟩
      by_cases hij : i ≤ j
      · simp only [hij, if_true] at q
        rw [if_pos (decide_eq_true hij)]
        refine PostG.bind r2 q fun z H3 d3 δ3 r3 g3 q3 _ q => ?_
        cases d3 with
        | int l =>
          simp only [Dat2, Dat] at q3
          subst q3
          exact ⟨j, l, rfl, rfl, PE1.scal rfl (q H3 Gr.refl r3.ds) (by simp [Dat])⟩
        | _ => exact q.elim
      · simp only [hij, if_false] at q
        rw [if_neg (by simpa using hij)]
        exact PE1.scal rfl (q H2 Gr.refl r2.ds) (by simp [Dat])
    | _ => exact q.elim
  | _ => exact q.elim
theorem lastM {x y : Expr} (h : behindInMarks .LtE y = false) : lastMarks [.LtE, .LtE] [x, y] = false := h
theorem d_ch (ha : PE X a (tD F X.K W ea)) (hb : PE X b (tD F X.K W eb)) (hc : PE X c (tD F X.K W ec)) : PE X (.Compare a [.LtE, .LtE] [b, c] pos) (tD F X.K W (.ch ea eb ec)) :=
  PE.imp (pe_chain op_le op_le ha hb hc (lastM (nomark c))) fun _ _ _ h => i_ch h
theorem dt_ch (ha : PE X a (tD F X.K W ea)) (hb : PE X b (tD F X.K W eb)) (hc : PE X c (tD F X.K W ec)) : PT X (.Compare a [.LtE, .LtE] [b, c] pos) (tT F X.K W (.ch ea eb ec)) :=
  PT.imp (pt_chain op_le op_le ha hb hc (lastM (nomark c))) fun _ _ _ h => i_ch (tT_tD h)

/-! ### is None, is True -/
theorem dat_non {K : PySem.W.Frag} {H : Hp} {A B : Addr → Prop} {v : V} {d : D} (q : Dat2 K H A B v d) : decide (v = .non) = (match d with | .none => true | _ => false) := by
  cases d with
  | none => simp only [Dat2, Dat] at q; subst q; rfl
  | bool _ => simp only [Dat2, Dat] at q; subst q; rfl
  | int _ => simp only [Dat2, Dat] at q; subst q; rfl
  | str _ => simp only [Dat2, Dat] at q; subst q; rfl
  | list _ => simp only [Dat2] at q; obtain ⟨p, xs, rfl, _⟩ := q; rfl
  | tuple _ => simp only [Dat2] at q; obtain ⟨p, xs, rfl, _⟩ := q; rfl
  | dict _ => simp only [Dat2] at q; obtain ⟨p, o, xs, rfl, _⟩ := q; rfl
theorem i_isn {K : PySem.W.Frag} {σ : L2.St} {H : Hp} {Q : VK} (h : tD F K W (.isn false ea) σ H Q) : tIsN (tD F K W ea) σ H Q := by
  obtain ⟨Φ, ρ, δ, r, q⟩ := h
  simp only [ev] at q
  refine PostG.bind r q fun x H1 d1 δ1 r1 g1 q1 _ q => ?_
  rw [dat_non q1]
  refine PE1.scal rfl (q H1 Gr.refl r1.ds) ?_
  cases d1 <;> simp [Dat]
theorem i_isnN {K : PySem.W.Frag} {σ : L2.St} {H : Hp} {Q : VK} (h : tD F K W (.isn true ea) σ H Q) : tNotN (tD F K W ea) σ H Q := by
  obtain ⟨Φ, ρ, δ, r, q⟩ := h
  simp only [ev] at q
  refine PostG.bind r q fun x H1 d1 δ1 r1 g1 q1 _ q => ?_
  rw [dat_non q1]
  refine PE1.scal rfl (q H1 Gr.refl r1.ds) ?_
  cases d1 <;> simp [Dat]
theorem d_isn {j : Nat} {p : Pos} (ha : PE X a (tD F X.K W ea)) : PE X (.Compare a [.Is] [.Constant .none j p] pos) (tD F X.K W (.isn false ea)) := PE.imp (pe_cmp (pc_isN ha)) fun _ _ _ h => i_isn h
theorem d_isnN {j : Nat} {p : Pos} (ha : PE X a (tD F X.K W ea)) : PE X (.Compare a [.IsNot] [.Constant .none j p] pos) (tD F X.K W (.isn true ea)) := PE.imp (pe_cmp (pc_notN ha)) fun _ _ _ h => i_isnN h
theorem dt_isn {j : Nat} {p : Pos} (ha : PE X a (tD F X.K W ea)) : PT X (.Compare a [.Is] [.Constant .none j p] pos) (tT F X.K W (.isn false ea)) := PT.imp (pt_cmp (pc_isN ha)) fun _ _ _ h => i_isn (tT_tD h)
theorem dt_isnN {j : Nat} {p : Pos} (ha : PE X a (tD F X.K W ea)) : PT X (.Compare a [.IsNot] [.Constant .none j p] pos) (tT F X.K W (.isn true ea)) := PT.imp (pt_cmp (pc_notN ha)) fun _ _ _ h => i_isnN (tT_tD h)
theorem i_isb {K : PySem.W.Frag} {t : Bool} {σ : L2.St} {H : Hp} {Q : VK} (h : tD F K W (.isb false t ea) σ H Q) : tOp rIsB (tD F K W ea) (tC (.bl t)) σ H Q := by
  obtain ⟨Φ, ρ, δ, r, q⟩ := h
  simp only [ev] at q
  refine PostG.bind r q fun x H1 d1 δ1 r1 g1 q1 _ q => ?_
  cases d1 with
  | bool i =>
    simp only [Dat2, Dat] at q1
    subst q1
    exact ⟨_, _, rfl, rfl, PE1.scal rfl (q H1 Gr.refl r1.ds) (by simp [Dat])⟩
  | _ => exact q.elim
theorem i_isbN {K : PySem.W.Frag} {t : Bool} {σ : L2.St} {H : Hp} {Q : VK} (h : tD F K W (.isb true t ea) σ H Q) : tOp rNotB (tD F K W ea) (tC (.bl t)) σ H Q := by
  obtain ⟨Φ, ρ, δ, r, q⟩ := h
  simp only [ev] at q
  refine PostG.bind r q fun x H1 d1 δ1 r1 g1 q1 _ q => ?_
  cases d1 with
  | bool i =>
    simp only [Dat2, Dat] at q1
    subst q1
    exact ⟨_, _, rfl, rfl, PE1.scal rfl (q H1 Gr.refl r1.ds) (by simp [Dat])⟩
  | _ => exact q.elim
theorem d_isb {t : Bool} {j : Nat} {p : Pos} (ha : PE X a (tD F X.K W ea)) : PE X (.Compare a [.Is] [.Constant (.bool t) j p] pos) (tD F X.K W (.isb false t ea)) := PE.imp (pe_cmpR op_isBl ha pe_bl (nomark _)) fun _ _ _ h => i_isb h
theorem d_isbN {t : Bool} {j : Nat} {p : Pos} (ha : PE X a (tD F X.K W ea)) : PE X (.Compare a [.IsNot] [.Constant (.bool t) j p] pos) (tD F X.K W (.isb true t ea)) := PE.imp (pe_cmpR op_notBl ha pe_bl (nomark _)) fun _ _ _ h => i_isbN h
theorem dt_isb {t : Bool} {j : Nat} {p : Pos} (ha : PE X a (tD F X.K W ea)) : PT X (.Compare a [.Is] [.Constant (.bool t) j p] pos) (tT F X.K W (.isb false t ea)) := PT.imp (pt_cmpR op_isBl ha pe_bl (nomark _)) fun _ _ _ h => i_isb (tT_tD h)
theorem dt_isbN {t : Bool} {j : Nat} {p : Pos} (ha : PE X a (tD F X.K W ea)) : PT X (.Compare a [.IsNot] [.Constant (.bool t) j p] pos) (tT F X.K W (.isb true t ea)) := PT.imp (pt_cmpR op_notBl ha pe_bl (nomark _)) fun _ _ _ h => i_isbN (tT_tD h)

/-! ### tests: and, or, not, if -/
theorem evB_bind {α : Type} {ρ : Env} {δ : DS} {f : D → DS → R α} {g : Bool → DS → R α} (h : ∀ d δ, f d δ = match d with | .bool b => g b δ | _ => .bad) : (ev F e ρ δ).bind f = (evB F e ρ δ).bind g := by
  unfold evB
  cases ev F e ρ δ with
  | ok d δ =>
    simp only [R.bind_ok]
    rw [h]
    cases d <;> rfl
  | er c δ => rfl
  | bad => rfl
theorem evB_no {ρ : Env} {δ : DS} : evB F (.no ea) ρ δ = (evB F ea ρ δ).bind fun b δ => .ok (!b) δ := by
  unfold evB
  simp only [ev]
  cases ev F ea ρ δ with
  | ok d δ => cases d <;> rfl
  | er c δ => rfl
  | bad => rfl
theorem evB_an {ρ : Env} {δ : DS} : evB F (.an ea eb) ρ δ = (evB F ea ρ δ).bind fun b δ => if b then evB F eb ρ δ else .ok false δ := by
  unfold evB
  simp only [ev]
  cases ev F ea ρ δ with
  | ok d δ =>
    cases d with
    | bool b =>
      cases b with
      | true =>
        simp only [R.bind_ok, asBool, R.ofOpt_some, if_true]
        cases ev F eb ρ δ with
        | ok d δ => cases d <;> rfl
        | er c δ => rfl
        | bad => rfl
      | false => rfl
    | _ => rfl
  | er c δ => rfl
  | bad => rfl
theorem evB_or {ρ : Env} {δ : DS} : evB F (.or ea eb) ρ δ = (evB F ea ρ δ).bind fun b δ => if b then .ok true δ else evB F eb ρ δ := by
  unfold evB
  simp only [ev]
  cases ev F ea ρ δ with
  | ok d δ =>
    cases d with
    | bool b =>
      cases b with
      | false =>
        simp only [R.bind_ok, asBool, R.ofOpt_some, if_false]
        cases ev F eb ρ δ with
        | ok d δ => cases d <;> rfl
        | er c δ => rfl
        | bad => rfl
      | true => rfl
    | _ => rfl
  | er c δ => rfl
  | bad => rfl
theorem evB_ite {ρ : Env} {δ : DS} : evB F (.ite ec ea eb) ρ δ = (evB F ec ρ δ).bind fun b δ => if b then evB F ea ρ δ else evB F eb ρ δ := by
  unfold evB
  simp only [ev]
  cases ev F ec ρ δ with
  | ok d δ =>
    cases d with
    | bool b => cases b <;> rfl
    | _ => rfl
  | er c δ => rfl
  | bad => rfl
theorem ev_ite {ρ : Env} {δ : DS} : ev F (.ite ec ea eb) ρ δ = (evB F ec ρ δ).bind fun b δ => if b then ev F ea ρ δ else ev F eb ρ δ := by
  unfold evB
  simp only [ev]
  cases ev F ec ρ δ with
  | ok d δ =>
    cases d with
    | bool b => cases b <;> rfl
    | _ => rfl
  | er c δ => rfl
  | bad => rfl
theorem dt_no (ha : PT X a (tT F X.K W ea)) : PT X (.UnaryOp .Not a pos) (tT F X.K W (.no ea)) := by
  refine PT.imp (pt_not ha) fun σ H Q ⟨Φ, ρ, δ, r, q⟩ => ?_
  rw [evB_no] at q
  exact PostG.bindB r q fun b H1 δ1 r1 g1 q => q H1 Gr.refl r1.ds
theorem dw_and {vs : List Expr} (ha : PT X a (tT F X.K W ea)) (hb : PW X (.BoolOp .And (b :: vs) pos) (tT F X.K W eb)) : PW X (.BoolOp .And (a :: b :: vs) pos) (tT F X.K W (.an ea eb)) := by
  refine PW.imp (pw_and ha hb) fun σ H Q ⟨Φ, ρ, δ, r, q⟩ => ?_
  rw [evB_an] at q
  refine PostG.bindB r q fun b H1 δ1 r1 g1 q => ?_
  cases b with
  | true => exact ⟨Φ, ρ, δ1, r1, q⟩
  | false => exact q H1 Gr.refl r1.ds
theorem dw_or {vs : List Expr} (ha : PT X a (tT F X.K W ea)) (hb : PW X (.BoolOp .Or (b :: vs) pos) (tT F X.K W eb)) : PW X (.BoolOp .Or (a :: b :: vs) pos) (tT F X.K W (.or ea eb)) := by
  refine PW.imp (pw_or ha hb) fun σ H Q ⟨Φ, ρ, δ, r, q⟩ => ?_
  rw [evB_or] at q
  refine PostG.bindB r q fun b H1 δ1 r1 g1 q => ?_
  cases b with
  | false => exact ⟨Φ, ρ, δ1, r1, q⟩
  | true => exact q H1 Gr.refl r1.ds
theorem d_ite (hc : PT X c (tT F X.K W ec)) (ha : PE X a (tD F X.K W ea)) (hb : PE X b (tD F X.K W eb)) : PE X (.IfExp c a b pos) (tD F X.K W (.ite ec ea eb)) := by
  refine PE.imp (pe_ifExp hc ha hb) fun σ H Q ⟨Φ, ρ, δ, r, q⟩ => ?_
  rw [ev_ite] at q
  refine PostG.bindB r q fun t H1 δ1 r1 g1 q => ?_
  have go : ∀ (e : E), (∀ i ∈ esc e, i ∈ esc (.ite ec ea eb)) → (∀ i ∈ esc1 e, i ∈ esc1 (.ite ec ea eb)) → (fresh (.ite ec ea eb) = true → fresh e = true) → PostG Φ σ H1 W (PE1 X.K Φ σ H ρ (.ite ec ea eb) Q) (ev F e ρ δ1) → tD F X.K W e σ H1 Q := fun e s s1 sf q => by
    refine ⟨Φ, ρ, δ1, r1, ?_⟩
    cases qe : ev F e ρ δ1 with
    | ok d δ2 =>
      rw [qe] at q
      intro H2 g2 ds2 v dat fr
      refine q H2 g2 ds2 v ?_ fun hf => ?_
      · exact Dat2.mono (fun a o e _ n => ⟨e, fun z => n (z.mono s)⟩) (fun a o e _ n => ⟨e, fun z => n (z.mono s1)⟩) dat
      · intro hl
        obtain ⟨p, e1, e2, e4⟩ := fr (sf hf) hl
        exact ⟨p, e1, g1.freeR r r1.ds e2, e4.mono (fun _ h => h) (fun a o e _ n => ⟨e, fun z => n (z.imp id fun z => z.mono s1)⟩)⟩
    | er c δ2 => rw [qe] at q; exact q
    | bad => rw [qe] at q; exact q
  cases t with
  | true => exact go ea (fun i hi => by simp only [esc, List.mem_append]; exact .inl hi) (fun i hi => by simp only [esc1, List.mem_append]; exact .inl hi) (fun h => by simp only [fresh, Bool.and_eq_true] at h; exact h.1) q
  | false => exact go eb (fun i hi => by simp only [esc, List.mem_append]; exact .inr hi) (fun i hi => by simp only [esc1, List.mem_append]; exact .inr hi) (fun h => by simp only [fresh, Bool.and_eq_true] at h; exact h.2) q
theorem pt_ifExp {tA tB' tC' : TT} (hc : PT X c tA) (ha : PT X a tB') (hb : PT X b tC') : PT X (.IfExp c a b pos) (fun σ H Q => tA σ H fun t H1 => if t = true then tB' σ H1 Q else tC' σ H1 Q) := by
  refine ⟨fun pins s σ H Q I h => ?_⟩
  refine PyProof.Rows.isTrue_IfExp (thn (hc.run pins s σ H _ I h) fun d s1 ⟨H1, I1, q1⟩ => ?_)
  cases d with
  | true => exact ha.run pins s1 σ H1 Q I1 q1
  | false => exact hb.run pins s1 σ H1 Q I1 q1
theorem dt_ite (hc : PT X c (tT F X.K W ec)) (ha : PT X a (tT F X.K W ea)) (hb : PT X b (tT F X.K W eb)) : PT X (.IfExp c a b pos) (tT F X.K W (.ite ec ea eb)) := by
  refine PT.imp (pt_ifExp hc ha hb) fun σ H Q ⟨Φ, ρ, δ, r, q⟩ => ?_
  rw [evB_ite] at q
  refine PostG.bindB r q fun t H1 δ1 r1 g1 q => ?_
  cases t with
  | true => exact ⟨Φ, ρ, δ1, r1, q⟩
  | false => exact ⟨Φ, ρ, δ1, r1, q⟩

/-! ### subscripts -/
theorem d_ix (hu : X.A.units + 65 < cLine) (ha : PE X a (tD F X.K W ea)) (hb : PE X b (tD F X.K W eb)) (hs : PlainIx b) : PE X (.Subscript a b pos) (tD F X.K W (.ix ea eb)) := by
  refine PE.imp (pe_ix (ix_list.or (ix_tup.or (ix_dn hu))) ha hb hs) fun σ H Q ⟨Φ, ρ, δ, r, q⟩ => ?_
  simp only [ev] at q
  refine PostG.bind r q fun x H1 d1 δ1 r1 g1 q1 _ q => PostG.bind r1 q fun y H2 d2 δ2 r2 g2 q2 _ q => ?_
  have q1 := g2.dat2 (r1.drA _) (r1.drA _) q1
  have fin : ∀ {xs : List V} {ds : List D} {i : Int}, DatL X.K H2 (AvX Φ σ ρ (esc1 ea)) xs ds → PostG Φ σ H2 W (PE1 X.K Φ σ H ρ (.ix ea eb) Q) (R.ofOpt δ2 (atI ds i)) → ∃ v, atI xs i = some v ∧ Q v H2 := fun {xs ds i} l q => by
    unfold atI at q ⊢
    rw [l.length]
    cases ei : ixN ds.length i with
    | none => rw [ei] at q; exact q.elim
    | some j =>
      rw [ei] at q
      simp only [Option.bind_some] at q ⊢
      cases ed : ds[j]? with
      | none => rw [ed] at q; exact q.elim
      | some d =>
        rw [ed] at q
        obtain ⟨v, e1, e2⟩ := l.get ed
        exact ⟨v, e1, q H2 Gr.refl r2.ds v (by simpa [esc, esc1] using e2.to2) (fun z => nomatch z)⟩
  cases d1 with
  | list ds =>
    cases d2 with
    | int i =>
      simp only [Dat2, Dat] at q1 q2
      obtain ⟨p, xs, rfl, e1, n1, l1⟩ := q1
      subst q2
      obtain ⟨v, e2, e3⟩ := fin l1 q
      exact .inl ⟨p, xs, i, v, rfl, rfl, SqL.of e1, e2, e3⟩
    | _ => exact q.elim
  | tuple ds =>
    cases d2 with
    | int i =>
      simp only [Dat2, Dat] at q1 q2
      obtain ⟨p, xs, rfl, e1, l1⟩ := q1
      subst q2
      obtain ⟨v, e2, e3⟩ := fin l1 q
      exact .inr (.inl ⟨p, xs, i, v, rfl, rfl, ktSq e1, e2, e3⟩)
    | _ => exact q.elim
  | dict kvs =>
    simp only [ixD] at q
    split at q
    · rename_i hk
      obtain ⟨k, k1, k2, k3⟩ := isKey_key hk
      obtain ⟨bb, rfl, kb⟩ := key8_of k3 k1 k2 q2.dat
      simp only [Dat2] at q1
      obtain ⟨p, o, xs, rfl, e1, n1, g, l⟩ := q1
      have hq := DatP.get k1 l
      cases hd : dget kvs d2 with
      | none => rw [hd] at q; exact q.elim
      | some z =>
        rw [hd] at hq q
        obtain ⟨v, hv, dv⟩ := hq
        exact .inr (.inr ⟨p, bb, xs, k, v, rfl, rfl, ⟨o, e1, g, l.keys8⟩, kb, hv, q H2 Gr.refl r2.ds v (by simpa [esc, esc1] using dv.to2) (fun z => nomatch z)⟩)
    · exact q.elim
  | _ => cases d2 <;> exact q.elim
theorem cut_dat {K : PySem.W.Frag} {H : Hp} {A : Addr → Prop} {xs : List V} {ds : List D} (l : DatL K H A xs ds) (lo hi : Option Int) : DatL K H A (cutV xs lo hi) (cut ds lo hi) := by
  unfold cutV cut
  rw [l.length]
  exact (l.drop _).take _
theorem cut_all {α : Type} {xs : List α} {lo hi : Option Int} (h : HT.sIx xs.length 0 lo = 0 ∧ HT.sIx xs.length xs.length hi = xs.length) : cut xs lo hi = xs := by
  unfold cut
  rw [h.1, h.2]
  simp
/-- a slice's part -/
def tP (F : Tab) (K : PySem.W.Frag) (W : WS) (e : E) : TO := fun σ H Q => ∃ Φ ρ δ, Rel K Φ σ H ρ δ ∧ PostG Φ σ H W (fun o _ H' => Q o H') (if isNa e then .ok none δ else (ev F e ρ δ).bind fun y δ => R.ofOpt δ ((asInt y).map some))
theorem PO.imp {o : Option Expr} {t t' : TO} (h : PO X o t) (i : ∀ σ H Q, t' σ H Q → t σ H Q) : PO X o t' := ⟨fun pins s σ H Q I q => h.run pins s σ H Q I (i σ H Q q)⟩
theorem o_none : PO X none (tP F X.K W .na) := PO.imp po_none fun σ H Q ⟨Φ, ρ, δ, r, q⟩ => q H Gr.refl r.ds
theorem o_some (ha : PE X a (tD F X.K W ea)) (hn : isNa ea = false) : PO X (some a) (tP F X.K W ea) := by
  refine PO.imp (po_some ha) fun σ H Q ⟨Φ, ρ, δ, r, q⟩ => ?_
  rw [hn] at q
  simp only [Bool.false_eq_true, if_false] at q
  refine PostG.bind r q fun x H1 d1 δ1 r1 g1 q1 _ q => ?_
  cases d1 with
  | int i =>
    simp only [Dat2, Dat] at q1
    exact ⟨i, q1, q H1 Gr.refl r1.ds⟩
  | _ => exact q.elim
theorem PostG.bindP {K : PySem.W.Frag} {α : Type} {P : α → DS → Hp → Prop} {Φ : Fm} {σ : L2.St} {H : Hp} {ρ : Env} {δ : DS} {f : Option Int → DS → R α} {Q : Option Int → Hp → Prop} (r : Rel K Φ σ H ρ δ)
    (h : PostG Φ σ H W P ((if isNa e then .ok none δ else (ev F e ρ δ).bind fun y δ => R.ofOpt δ ((asInt y).map some)).bind f))
    (k : ∀ b H1 δ1, Rel K Φ σ H1 ρ δ1 → Gr Φ H H1 → PostG Φ σ H1 W P (f b δ1) → Q b H1) : tP F K W e σ H Q := by
  refine ⟨Φ, ρ, δ, r, ?_⟩
  generalize (if isNa e then R.ok none δ else (ev F e ρ δ).bind fun y δ => R.ofOpt δ ((asInt y).map some)) = z at h ⊢
  cases z with
  | ok d δ1 =>
    intro H1 g ds
    exact k d H1 δ1 (r.grow g ds) g (PostG.step h g)
  | er c δ1 => exact h
  | bad => exact h
theorem d_sl {lo hi : Option Expr} {el eh : E} {p2 : Pos} (ha : PE X a (tD F X.K W ea)) (hl : PO X lo (tP F X.K W el)) (hh : PO X hi (tP F X.K W eh)) : PE X (.Subscript a (.Slice lo hi none p2) pos) (tD F X.K W (.sl ea el eh)) := by
  refine PE.imp (pe_slice (sl_list.or (sl_tupA.or sl_str)) ha hl hh) fun σ H Q ⟨Φ, ρ, δ, r, q⟩ => ?_
  simp only [ev] at q
  refine PostG.bind r q fun x H1 d1 δ1 r1 g1 q1 _ q => PostG.bindP r1 q fun o1 H2 δ2 r2 g2 q => PostG.bindP r2 q fun o2 H3 δ3 r3 g3 q => ?_
  have q1 := (g2.trans g3).dat2 (r1.drA _) (r1.drA _) q1
  cases d1 with
  | list ds =>
    simp only [Dat2] at q1
    obtain ⟨p, xs, rfl, e1, n1, l1⟩ := q1
    exact .inl ⟨p, xs, rfl, SqL.of e1, fun p' hp => PE1.newL r (g1.trans (g2.trans g3)) r3 q (AvX.sub (fun i hi => by simpa [esc1] using hi) (cut_dat l1 o1 o2)) hp⟩
  | tuple ds =>
    simp only [Dat2] at q1
    obtain ⟨p, xs, rfl, e1, l1⟩ := q1
    refine .inr <| .inl ⟨p, xs, rfl, ktSq e1, fun h => ?_, fun h p' hp => ?_⟩
    · have q : PostG Φ σ H3 W (PE1 X.K Φ σ H ρ (.sl ea el eh) Q) (R.ok (.tuple (cut ds o1 o2)) δ3) := q
      rw [cut_all (by rw [← l1.length]; exact h)] at q
      exact PE1.oldT r3 q e1 (AvX.sub (fun i hi => by simpa [esc1] using hi) l1)
    · exact PE1.newT r3 q (AvX.sub (fun i hi => by simpa [esc1] using hi) (cut_dat l1 o1 o2)) hp
  | str z =>
    simp only [Dat2, Dat] at q1
    subst q1
    simp only [slD] at q
    split at q
    · rename_i hz
      exact .inr <| .inr ⟨z, rfl, Nat.le_trans hz (by rw [sizeLine_eq]; decide), PE1.scal rfl (q H3 Gr.refl r3.ds) (by simp [Dat])⟩
    · exact q.elim
  | _ => exact q.elim
theorem d_rv {k : Nat} {p1 p2 p3 : Pos} (ha : PE X a (tD F X.K W ea)) : PE X (.Subscript a (.Slice none none (some (.UnaryOp .USub (.Constant (.int 1) k p1) p2)) p3) pos) (tD F X.K W (.rv ea)) := by
  refine PE.imp (pe_revL ha) fun σ H Q ⟨Φ, ρ, δ, r, q⟩ => ?_
  simp only [ev] at q
  refine PostG.bind r q fun x H1 d1 δ1 r1 g1 q1 _ q => ?_
  cases d1 with
  | list ds =>
    simp only [Dat2] at q1
    obtain ⟨p, xs, rfl, e1, n1, l1⟩ := q1
    exact ⟨p, xs, rfl, SqL.of e1, fun p' hp => PE1.newL r g1 r1 q (AvX.sub (fun i hi => by simpa [esc1] using hi) l1.reverse) hp⟩
  | _ => exact q.elim

/-! ### argument lists, displays -/
theorem a_nil : PA X [] (tDs F X.K W .nil) := PA.imp pa_nil fun σ H Q ⟨Φ, ρ, δ, r, q⟩ => q H Gr.refl r.ds [] trivial
theorem a_cons {as : List Expr} {es : Es} (ha : PE X a (tD F X.K W ea)) (hr : PA X as (tDs F X.K W es)) (hs : starEach (a :: as) X.env = (false, eval a X.env) :: starEach as X.env) : PA X (a :: as) (tDs F X.K W (.cons ea es)) := by
  refine PA.imp (pa_cons ha hr hs) fun σ H Q ⟨Φ, ρ, δ, r, q⟩ => ?_
  simp only [evs] at q
  refine PostG.bind r q fun x H1 d1 δ1 r1 g1 q1 _ q => PostG.binds r1 q fun vs H2 ds δ2 r2 g2 q2 q => ?_
  refine q H2 Gr.refl r2.ds (x :: vs) ?_
  simp only [ArgL]
  exact ⟨g2.dat2 (r1.drA _) (r1.drA _) q1, q2⟩
theorem i_len {K : PySem.W.Frag} {Φ : Fm} {σ : L2.St} {H : Hp} {ρ : Env} : ∀ {es : Es} {vs : List V} {ds : List D}, ArgL K Φ σ H ρ es vs ds → vs.length = ds.length := fun h => h.dat.length
def Es.len : Es → Nat
  | .nil => 0
  | .cons _ es => es.len + 1
theorem argL_len {K : PySem.W.Frag} {Φ : Fm} {σ : L2.St} {H : Hp} {ρ : Env} : ∀ {es : Es} {vs : List V} {ds : List D}, ArgL K Φ σ H ρ es vs ds → vs.length = es.len
  | .nil, [], [], _ => rfl
  | .cons e es, v :: vs, d :: ds, h => by
    simp only [ArgL] at h
    simp [Es.len, argL_len h.2]
  | .nil, _ :: _, _, h => by cases ‹List D› <;> simp [ArgL] at h
  | .nil, [], _ :: _, h => by simp [ArgL] at h
  | .cons _ _, [], _, h => by cases ‹List D› <;> simp [ArgL] at h
  | .cons _ _, _ :: _, [], h => by simp [ArgL] at h
theorem d_ls {as : List Expr} {es : Es} (h : PA X as (tDs F X.K W es)) (hz : es.len ≤ sizeLine) : PE X (.List as pos) (tD F X.K W (.ls es)) := by
  refine PE.imp (pe_lst h) fun σ H Q ⟨Φ, ρ, δ, r, q⟩ => ?_
  simp only [ev] at q
  refine PostG.binds r q fun vs H1 ds δ1 r1 g1 q1 q => ⟨by rw [argL_len q1]; exact hz, fun p hp => ?_⟩
  exact PE1.newL r g1 r1 q (AvX.sub (fun i hi => by simpa [esc1] using hi) q1.dat) hp
theorem d_tu {as : List Expr} {es : Es} {k : Nat} (h : PA X as (tDs F X.K W es)) (hz : es.len ≤ sizeLine) : PE X (.Tuple as k pos) (tD F X.K W (.tu es)) := by
  refine PE.imp (pe_tup h) fun σ H Q ⟨Φ, ρ, δ, r, q⟩ => ?_
  simp only [ev] at q
  refine PostG.binds r q fun vs H1 ds δ1 r1 g1 q1 q => ⟨by rw [argL_len q1]; exact hz, fun p hp => ?_⟩
  exact PE1.newT r1 q (AvX.sub (fun i hi => by simpa [esc1] using hi) q1.dat) hp

/-! ### dicts -/
theorem d_dn : PE X (.Dict [] [] pos) (tD F X.K W .dn) := by
  refine PE.imp pe_dn0 fun σ H Q ⟨Φ, ρ, δ, r, q⟩ p hp hs => ?_
  exact PE1.newD r Gr.refl r q (good0 hs) (by simp [DatP]) hp
/-- an expression while the new thing at p is hidden -/
theorem PostG.bindH {K : PySem.W.Frag} {Φ : Fm} {σ : L2.St} {H Hb H0 : Hp} {ρ : Env} {δ δ0 : DS} {α : Type} {P : α → DS → Hp → Prop} {A' : Addr → Prop} {f : D → DS → R α} {Q : VK} (d0 : DsOk Φ H0 δ0) (gb : Gr Φ Hb H) (r : Rel K { Φ with A := A' } σ H ρ δ) (h : PostG Φ σ Hb W P ((ev F e ρ δ).bind f))
    (k : ∀ v H1 d δ1, Rel K { Φ with A := A' } σ H1 ρ δ1 → Gr Φ H H1 → Dat2 K H1 (AvX { Φ with A := A' } σ ρ (esc e)) (AvX { Φ with A := A' } σ ρ (esc1 e)) v d → PostG Φ σ Hb W P (f d δ1) → Q v H1) : tD F K W e σ H Q := by
  refine ⟨{ Φ with A := A' }, ρ, δ, r, ?_⟩
  cases q : ev F e ρ δ with
  | ok d δ1 =>
    rw [q] at h
    intro H1 g ds v dat fr
    exact k v H1 d δ1 (r.grow g ds) g dat h
  | er c δ1 =>
    rw [q] at h
    exact fun H' g ds => h H' (gb.trans g) (DsOk.back ds d0)
  | bad => rw [q] at h; exact h
theorem d_d1 (hu : X.A.units + 65 < cLine) (ha : PE X a (tD F X.K W ea)) (hb : PE X b (tD F X.K W eb)) : PE X (.Dict [some a] [b] pos) (tD F X.K W (.d1 ea eb)) := by
  refine PE.imp (pe_dn1 hu ha hb) fun σ H Q ⟨Φ, ρ, δ, r, q⟩ p hp hs => ?_
  simp only [ev] at q
  have g0 : Gr Φ H (upd H p (DO p ob0)) := Gr.new hp
  have r0 : Rel X.K { Φ with A := fun a => Φ.A a ∨ a = p } σ (upd H p (DO p ob0)) ρ δ := r.hideM (.x fun h => h.get? p = some ob0) hp
  have nd : ¬ Dr Φ p := fun z => Av.fresh r hp (.inl (z.A r.ds))
  refine PostG.bindH r.ds g0 r0 q fun x H1 d1 δ1 r1 g1 q1 q => PostG.bindH r.ds (g0.trans g1) r1 q fun y H2 d2 δ2 r2 g2 q2 q => ?_
  have q1 := g2.dat2 (r1.drA _) (r1.drA _) q1
  have eH2 : H2 p = some (DO p ob0) := (g1.trans g2) p _ upd_same nd
  refine ⟨eH2, ?_⟩
  split at q
  · rename_i hk
    obtain ⟨k, k1, k2, k3⟩ := isKey_key hk
    obtain ⟨bb, rfl, kb⟩ := key8_of k3 k1 k2 q1.dat
    refine ⟨bb, k, rfl, kb, fun o' gd => ?_⟩
    have s1 : ∀ i ∈ esc ea, i ∈ esc1 (.d1 ea eb) := fun i hi => by simp only [esc1, List.mem_append]; exact .inl hi
    have s2 : ∀ i ∈ esc eb, i ∈ esc1 (.d1 ea eb) := fun i hi => by simp only [esc1, List.mem_append]; exact .inr hi
    have st : ∀ (X : List Nat), (∀ i ∈ X, i ∈ esc1 (.d1 ea eb)) → ∀ a o, H2 a = some o → Seq o → ¬ AvX { Φ with A := fun a => Φ.A a ∨ a = p } σ ρ X a → upd H2 p (DO p o') a = some o ∧ ¬ (a = p ∨ AvX Φ σ ρ (esc1 (.d1 ea eb)) a) := fun X sX a o e _ n => by
      have np : a ≠ p := fun z => n (.inl (.inr z))
      refine ⟨by rw [upd_ne np]; exact e, fun z => z.elim np fun z => n ?_⟩
      rcases z.mono sX with z | z
      · exact .inl (.inl z)
      · exact .inr z
    have l2 : DatP X.K (upd H2 p (DO p o')) (fun a => a = p ∨ AvX Φ σ ρ (esc1 (.d1 ea eb)) a) [(k, bb, y)] [(d1, d2)] := by
      simp only [DatP]
      exact ⟨k1, k2, Dat.mono (st _ s1) d1 q1.dat, Dat.mono (st _ s2) d2 q2.dat, trivial⟩
    have nA : ∀ X, ¬ AvX Φ σ ρ X p := fun X z => Av.fresh r hp z.av
    have dk : DsOk Φ (upd H2 p (DO p o')) δ2 := by
      have d := DsOk.back r2.ds r.ds
      unfold DsOk at d ⊢
      split at d
      · trivial
      · rename_i e
        refine ⟨?_, ?_, d.2.2⟩
        · rw [upd_ne (fun z => nd ⟨_, _, e, .inl z.symm⟩)]; exact d.1
        · rw [upd_ne (fun z => nd ⟨_, _, e, .inr z.symm⟩)]; exact d.2.1
      · exact d.elim
    refine q (upd H2 p (DO p o')) (fun a o e z => ?_) dk _ ?_ fun _ _ => ?_
    · rw [upd_ne (ne_of_none e hp)]
      exact (g0.trans (g1.trans g2)) a o e z
    · simp only [Dat2]
      exact ⟨p, o', _, rfl, upd_same, nA _, gd, DatP.mono (fun a o e _ n => ⟨e, fun z => n (.inr z)⟩) _ l2⟩
    · exact ⟨p, rfl, hp, o', _, upd_same, gd, l2⟩
  · exact q.elim
theorem d_dg {c : Expr} {ec : E} {apos : Pos} (hu : X.A.units + 65 < cLine) (hx : PE X c (tD F X.K W ec)) (ha : PE X a (tD F X.K W ea)) (hb : PE X b (tD F X.K W eb)) (m : M2 X c "get" apos a b pos) : PE X (.Call (.Attribute c "get" apos) [a, b] [] pos) (tD F X.K W (.dg ec ea eb)) := by
  refine PE.imp (pe_dgN hu hx ha hb m) fun σ H Q ⟨Φ, ρ, δ, r, q⟩ => ?_
  simp only [ev] at q
  refine PostG.bind r q fun x H1 d1 δ1 r1 g1 q1 _ q => ?_
  cases d1 with
  | dict kvs =>
    have q1' := q1
    simp only [Dat2] at q1'
    obtain ⟨p, o, xs, rfl, e1, n1, gd, l⟩ := q1'
    refine ⟨p, o, xs, rfl, e1, gd, ?_⟩
    refine PostG.bind r1 q fun y H2 d2 δ2 r2 g2 q2 _ q => PostG.bind r2 q fun z H3 d3 δ3 r3 g3 q3 _ q => ?_
    have q1 := (g2.trans g3).dat2 (r1.drA _) (r1.drA _) q1
    have q2 := g3.dat2 (r2.drA _) (r2.drA _) q2
    split at q
    · rename_i hk
      obtain ⟨k, k1, k2, k3⟩ := isKey_key hk
      obtain ⟨bb, rfl, kb⟩ := key8_of k3 k1 k2 q2.dat
      simp only [Dat2] at q1
      obtain ⟨p', o', ys, ep, e1', n1', gd', l'⟩ := q1
      injection ep with ep; subst ep
      refine ⟨bb, k, ys, rfl, ⟨o', e1', gd', l'.keys8⟩, kb, ?_⟩
      have hq := DatP.get k1 l'
      cases hd : dget kvs d2 with
      | none =>
        rw [hd] at hq q
        rw [hq]
        exact q H3 Gr.refl r3.ds z (Dat2.mono (fun a o e _ n => ⟨e, fun w => n (w.mono fun i hi => by simp only [esc, List.mem_append]; exact .inr hi)⟩) (fun a o e _ n => ⟨e, fun w => n (w.mono fun i hi => by simp only [esc1, List.mem_append]; exact .inr (esc1_sub eb i hi))⟩) q3) (fun w => nomatch w)
      | some e =>
        rw [hd] at hq q
        obtain ⟨v, hv, dv⟩ := hq
        rw [hv]
        exact q H3 Gr.refl r3.ds v (Dat2.mono (fun a o e _ n => ⟨e, fun w => n (w.mono fun i hi => by simp only [esc, List.mem_append]; exact .inl hi)⟩) (fun a o e _ n => ⟨e, fun w => n (w.mono fun i hi => by simp only [esc1, List.mem_append]; exact .inl hi)⟩) dv.to2) (fun w => nomatch w)
    · exact q.elim
  | _ => exact q.elim
end
end Tk
set_option linter.all false
set_option Elab.async false
set_option maxRecDepth 100000
set_option maxHeartbeats 1000000
/-! TkSort: sorted of a tuple of ints; sorted(set(..)) of a tuple of ints. -/
namespace Tk
open PySem PySem.Spec PyProof.Rows L2
section
variable {prog : Program} {w : World} {A : Around} {E : Value → Shared → Prop} {s : Shared}
/-- the items of a tuple, gathered in a new list -/
theorem gather_tup {l : Addr} {vs : List Value} {Q : List Value → Shared → Prop} (hl : IsTup s.heap l vs.toArray) (hsz : vs.length ≤ sizeLine)
    (h : Q vs { s with heap := (s.heap.push (seqObj "list" #[] 0)).update s.heap.objs.size (Obj.mapSeq (· ++ vs.toArray)) }) : wpAny (model prog w) A (collect (.ref l)) Q E s := by
  obtain ⟨o, ho, hc, n, hd⟩ := hl
  have ho' : (s.heap.push (seqObj "list" #[] 0)).get? l = some o := Heap.get?_push_of_some _ ho
  have hnew : (s.heap.push (seqObj "list" #[] 0)).get? s.heap.objs.size = some (seqObj "list" #[] 0) := Heap.get?_push_size _ rfl
  unfold collect
  refine wpAny_bind (wpAny_runValue (codeAny_builtin entry_proto_collect' (show wpAny _ _ (do again (.builtin "list.__iadd__" ⟨[← newList [], .ref l], []⟩)) _ _ s from wpAny_bind (wpAny_newList (wpAny_pure ⟨Code.quiet_builtin _ (by decide +kernel), codeAny_builtin entry_list_iadd' ?_⟩)))))
  show wpAny _ _ (Builtin.List.listExtendWith (.ref s.heap.objs.size) (.ref l) (.ref s.heap.objs.size)) _ _ { s with heap := s.heap.push (seqObj "list" #[] 0) }
  unfold Builtin.List.listExtendWith
  refine wpAny_bind (wpAny_typeOf (T := "tuple") ⟨o, ho', hc⟩ ?_)
  have tt : (Value.type "tuple" == Value.type "tuple") = true := rfl
  rw [if_pos (by simp [tt])]
  refine wpAny_bind (listItems_at ho' hd (wpAny_bind (listItems_at (xs := #[]) (n := 0) hnew rfl ?_)))
  rw [if_neg (by simp)]
  have hz : (#[] ++ vs.toArray).size ≤ sizeLine + 1 := by simp; omega
  refine wpAny_bind (listUpdate_at (xs := #[]) (n := 0) hnew rfl (wpAny_pure ?_) (Nat.zero_le _) hz)
  show wpAny (model prog w) A (do
      let z ← load s.heap.objs.size
      match z.data with
      | .seq ys _ => pure ys.toList
      | _ => unsupported "internal:collect") Q E { s with heap := (s.heap.push (seqObj "list" #[] 0)).update s.heap.objs.size (Obj.mapSeq (· ++ vs.toArray)) }
  refine wpAny_bind (wpAny_load (get?_update_seq hnew _) ?_)
  have e : ((#[] : Array Value) ++ vs.toArray).toList = vs := by simp
  exact wpAny_pure (e.symm ▸ h)
/-- sorted of a tuple: as of a list -/
theorem sorted_tupO {l : Addr} {vs : List Value} {ltv : Value → Value → Bool} {Q : Value → Shared → Prop} (O : SrtO.Swo ltv) (hl : IsTup s.heap l vs.toArray) (hz : vs.length ≤ sizeLine)
    (hS : 2 ≤ vs.length → ∀ (h₁ : Heap) (a : Addr), h₁.get? a = some (seqObj "list" vs.toArray 0) → (∀ b o, s.heap.get? b = some o → b ≠ a ∧ h₁.get? b = some o) → SrtO.SortableO prog w A.in1.in1 { s with heap := h₁ } a vs ltv)
    (h : ∀ out : List Value, SrtO.Srtd ltv out → SrtO.Stb ltv out vs → Q (.ref (s.heap.objs.size + 1)) { s with heap := sortedAll s.heap vs out.toArray }) : wpAny (model prog w) A (call (.builtin "sorted") [.ref l]) Q E s := by
  refine Calls.call_function_entry kind_sorted plain_sorted entry_sorted (args_sorted1 _) ?_
  unfold Builtin.«sorted»
  refine wpAny_bind (m := checkCount "sorted" 1 1 _) (wpAny_pure (wpAny_bind (gather_tup hl hz (wpAny_bind (wpAny_newList ?_ hz)))))
  have e1 : ((s.heap.push (seqObj "list" #[] 0)).update s.heap.objs.size (Obj.mapSeq (· ++ vs.toArray))).objs.size = s.heap.objs.size + 1 := (Heap.size_update ..).trans (size_push' _ _)
  have e2 : (((s.heap.push (seqObj "list" #[] 0)).update s.heap.objs.size (Obj.mapSeq (· ++ vs.toArray))).push (seqObj "list" vs.toArray 0)).get? (s.heap.objs.size + 1) = some (seqObj "list" vs.toArray 0) := e1 ▸ Heap.get?_push_size _ rfl
  have e3 : ∀ b o, s.heap.get? b = some o → b ≠ s.heap.objs.size + 1 ∧ (((s.heap.push (seqObj "list" #[] 0)).update s.heap.objs.size (Obj.mapSeq (· ++ vs.toArray))).push (seqObj "list" vs.toArray 0)).get? b = some o := fun b o q =>
    have lt : b < s.heap.objs.size := Heap.lt_size q
    ⟨Nat.ne_of_lt (Nat.lt_succ_of_lt lt), Heap.get?_push_of_some _ ((Heap.get?_update_ne _ _ _ _ (Nat.ne_of_lt lt)).trans (Heap.get?_push_of_some _ q))⟩
  show wpAny _ _ _ _ _ { s with heap := ((s.heap.push (seqObj "list" #[] 0)).update s.heap.objs.size (Obj.mapSeq (· ++ vs.toArray))).push (seqObj "list" vs.toArray 0) }
  rw [e1]
  exact wpAny_bind (wpAny_holding (wpAny_call_entry slot_list_sort ⟨_, e2, rfl⟩ entry_list_sort (SrtO.list_sort_ord O e2 hz (fun h2 => hS h2 _ _ e2 e3) fun out hs hb => ⟨_, rfl, wpAny_pure ⟨_, rfl, h out hs hb⟩⟩) (args_list_sort _)))
end
section
variable {X : Cx}
def rSortTup (K : PySem.W.Frag) : List V → Hp → VK → Prop := fun vs H Q => ∃ (a : Addr) (ns : List Int), vs = [V.ref a] ∧ SqT K H a (ns.map V.int) ∧ ∀ (ns' : List Int) (p : Addr), ns'.Perm ns → ns'.Pairwise (· ≤ ·) → H p = none → Q (.ref p) (upd H p (.lst (ns'.map V.int)))
theorem cr_sortTup : CallR X (.builtin "sorted") (rSortTup X.K) := by
  intro pins s σ H vs us Q I r h
  obtain ⟨a, ns, rfl, hs, q⟩ := h
  obtain ⟨its, rv, hl, hz⟩ := I.tuple hs
  rw [Vals.ref1 r]
  have hi := rv.ints
  refine sorted_tupO SrtO.swo_int hl (by rw [← rv.length]; exact hz) (fun h2 h₁ a' _ _ => SrtO.ints_sortable hi h2) fun out o1 o2 => ?_
  obtain ⟨k1, k2, k3⟩ := SrtO.ints_out hi o1 o2
  obtain ⟨ep, he'⟩ := sortedAll_at s.heap its out.toArray
  have hlen : ((out.map SrtO.iv).map V.int).length ≤ sizeLine := by
    have := k2.length_eq
    simp only [List.length_map] at this hz ⊢
    omega
  exact ⟨.ref _, upd H (s.heap.objs.size + 1) (.lst ((out.map SrtO.iv).map V.int)), I.laid (t' := s.toks) (fun _ _ => sortedAll_old) (Nat.le_succ _) ⟨hlen, out, ep, vals_of_ints k1, he'⟩, rfl, q _ _ k2 k3 (I.hok.fresh (Nat.le_succ _))⟩
/-- set of a tuple of ints -/
def rSetTup (K : PySem.W.Frag) (w : World) : List V → Hp → VK → Prop := fun vs H Q => ∃ (a : Addr) (ns : List Int), vs = [V.ref a] ∧ SqT K H a (ns.map V.int) ∧ ns.length < 60 ∧ ∀ (p : Addr) (c : Nat), c ≤ ns.length → H p = none → Q (.ref p) (upd H p (SetO w p (fun j => decide (j ∈ ns)) c))
theorem cr_setTup (hc : X.calm = true) : CallR X (.type "set") (rSetTup X.K X.w) := by
  intro pins s σ H vs us Q I r h
  obtain ⟨a, ns, rfl, hs, hlt, q⟩ := h
  obtain ⟨its, rv, hl, hz⟩ := I.tuple hs
  rw [Vals.ref1 r]
  refine call_set_tupI (P := X.prog) (w := X.w) ns (I.ok.hd hc) hl (by simpa using rv.ints) (Nat.lt_of_le_of_lt (Nat.add_le_add_right (Nat.le_of_lt hlt) 1) (by decide)) fun h' tk c R hcl k => ?_
  exact ⟨.ref s.heap.objs.size, upd H s.heap.objs.size (SetO X.w s.heap.objs.size (fun j => decide (j ∈ ns)) c), I.laid (t' := tk) k (Nat.le_refl _) (setO_new R), rfl, q _ c hcl (I.hok.fresh (Nat.le_refl _))⟩
theorem insI_perm (x : Int) : ∀ ys : List Int, (insI x ys).Perm (x :: ys)
  | [] => .refl _
  | y :: ys => by
    unfold insI
    split
    · exact .refl _
    · exact ((insI_perm x ys).cons y).trans (.swap x y ys)
theorem isort_perm : ∀ xs : List Int, (isort xs).Perm xs
  | [] => .refl _
  | x :: xs => (insI_perm x _).trans ((isort_perm xs).cons x)
theorem insI_sorted (x : Int) : ∀ ys : List Int, ys.Pairwise (· ≤ ·) → (insI x ys).Pairwise (· ≤ ·)
  | [], _ => by simp [insI]
  | y :: ys, h => by
    unfold insI
    have h' := List.pairwise_cons.mp h
    split
    · rename_i hxy
      refine List.pairwise_cons.mpr ⟨fun z hz => ?_, h⟩
      rcases List.mem_cons.mp hz with rfl | hz
      · exact hxy
      · have := h'.1 z hz; omega
    · rename_i hxy
      refine List.pairwise_cons.mpr ⟨fun z hz => ?_, insI_sorted x ys h'.2⟩
      rcases List.mem_cons.mp ((insI_perm x ys).mem_iff.mp hz) with rfl | hz
      · omega
      · exact h'.1 z hz
theorem isort_sorted : ∀ xs : List Int, (isort xs).Pairwise (· ≤ ·)
  | [] => .nil
  | x :: xs => insI_sorted x _ (isort_sorted xs)
theorem sorted_unique : ∀ {a b : List Int}, a.Perm b → a.Pairwise (· ≤ ·) → b.Pairwise (· ≤ ·) → a = b
  | [], b, p, _, _ => (List.nil_perm.mp p).symm
  | x :: a, [], p, _, _ => absurd p.length_eq (by simp)
  | x :: a, y :: b, p, h1, h2 => by
    have h1' := List.pairwise_cons.mp h1
    have h2' := List.pairwise_cons.mp h2
    have e : x = y := by
      have m1 : x ∈ y :: b := p.mem_iff.mp (by simp)
      have m2 : y ∈ x :: a := p.mem_iff.mpr (by simp)
      rcases List.mem_cons.mp m1 with e | m1
      · exact e
      · rcases List.mem_cons.mp m2 with e | m2
        · exact e.symm
        · have := h1'.1 y m2
          have := h2'.1 x m1
          omega
    subst e
    rw [sorted_unique (List.perm_cons _ |>.mp p) h1'.2 h2'.2]
theorem insU_mem (x : Int) : ∀ ys : List Int, ∀ z, z ∈ insU x ys ↔ z = x ∨ z ∈ ys
  | [], z => by simp [insU]
  | y :: ys, z => by
    unfold insU
    split
    · simp
    · split
      · subst_vars; simp
      · have := insU_mem x ys z
        simp only [List.mem_cons, this]
        constructor
        · rintro (h | h | h) <;> simp [h]
        · rintro (h | h | h) <;> simp [h]
theorem usort_mem : ∀ xs : List Int, ∀ z, z ∈ usort xs ↔ z ∈ xs
  | [], z => by simp [usort]
  | x :: xs, z => by rw [usort, insU_mem, usort_mem xs z]; simp
theorem insU_sorted (x : Int) : ∀ ys : List Int, ys.Pairwise (· < ·) → (insU x ys).Pairwise (· < ·)
  | [], _ => by simp [insU]
  | y :: ys, h => by
    unfold insU
    have h' := List.pairwise_cons.mp h
    split
    · rename_i hxy
      refine List.pairwise_cons.mpr ⟨fun z hz => ?_, h⟩
      rcases List.mem_cons.mp hz with rfl | hz
      · exact hxy
      · have := h'.1 z hz; omega
    · split
      · exact h
      · refine List.pairwise_cons.mpr ⟨fun z hz => ?_, insU_sorted x ys h'.2⟩
        rcases (insU_mem x ys z).mp hz with rfl | hz
        · omega
        · exact h'.1 z hz
theorem usort_sorted : ∀ xs : List Int, (usort xs).Pairwise (· < ·)
  | [] => .nil
  | x :: xs => insU_sorted x _ (usort_sorted xs)
theorem strict_unique : ∀ {a b : List Int}, (∀ z, z ∈ a ↔ z ∈ b) → a.Pairwise (· < ·) → b.Pairwise (· < ·) → a = b
  | [], [], _, _, _ => rfl
  | [], y :: b, m, _, _ => absurd ((m y).mpr (by simp)) (by simp)
  | x :: a, [], m, _, _ => absurd ((m x).mp (by simp)) (by simp)
  | x :: a, y :: b, m, h1, h2 => by
    have h1' := List.pairwise_cons.mp h1
    have h2' := List.pairwise_cons.mp h2
    have e : x = y := by
      rcases List.mem_cons.mp ((m x).mp (by simp)) with e | m1
      · exact e
      · rcases List.mem_cons.mp ((m y).mpr (by simp)) with e | m2
        · exact e.symm
        · have := h1'.1 y m2
          have := h2'.1 x m1
          omega
    subst e
    rw [strict_unique (fun z => ?_) h1'.2 h2'.2]
    have := m z
    simp only [List.mem_cons] at this
    constructor
    · intro hz
      rcases this.mp (.inr hz) with rfl | h
      · have := h1'.1 _ hz; omega
      · exact h
    · intro hz
      rcases this.mpr (.inr hz) with rfl | h
      · have := h2'.1 _ hz; omega
      · exact h
end
end Tk
set_option linter.all false
set_option Elab.async false
set_option maxRecDepth 100000
set_option maxHeartbeats 1000000
/-! TkSortT: sorted of tuples of ints of any lengths. -/
namespace Tk
open PySem PySem.Spec PyProof.Rows L2
theorem lexL_asym : ∀ x y : List Int, lexL x y = true → lexL y x = false
  | _, [], h => by simp [lexL] at h
  | [], _ :: _, _ => rfl
  | x :: xs, y :: ys, h => by
    simp only [lexL] at h ⊢
    by_cases e : x = y
    · rw [if_pos e] at h
      rw [if_pos e.symm]
      exact lexL_asym xs ys h
    · rw [if_neg e, decide_eq_true_eq] at h
      rw [if_neg (Ne.symm e)]
      exact decide_eq_false (by omega)
theorem lexL_tr : ∀ x y z : List Int, lexL y x = false → lexL z y = false → lexL z x = false
  | [], _, _, _, _ => by simp [lexL]
  | x :: xs, [], z, h, _ => by simp [lexL] at h
  | x :: xs, y :: ys, [], _, h => by simp [lexL] at h
  | x :: xs, y :: ys, z :: zs, h1, h2 => by
    simp only [lexL] at h1 h2 ⊢
    by_cases e1 : y = x <;> by_cases e2 : z = y
    · rw [if_pos e1] at h1
      rw [if_pos e2] at h2
      rw [if_pos (e2.trans e1)]
      exact lexL_tr xs ys zs h1 h2
    · rw [if_neg e2, decide_eq_false_iff_not] at h2
      rw [if_neg (by omega)]
      exact decide_eq_false (by omega)
    · rw [if_neg e1, decide_eq_false_iff_not] at h1
      rw [if_neg (by omega)]
      exact decide_eq_false (by omega)
    · rw [if_neg e1, decide_eq_false_iff_not] at h1
      rw [if_neg e2, decide_eq_false_iff_not] at h2
      rw [if_neg (by omega)]
      exact decide_eq_false (by omega)
theorem lexL_tot : ∀ x y : List Int, lexL x y = false → lexL y x = false → x = y
  | [], [], _, _ => rfl
  | [], _ :: _, h, _ => by simp [lexL] at h
  | _ :: _, [], _, h => by simp [lexL] at h
  | x :: xs, y :: ys, h1, h2 => by
    simp only [lexL] at h1 h2
    by_cases e : x = y
    · rw [if_pos e] at h1
      rw [if_pos e.symm] at h2
      rw [e, lexL_tot xs ys h1 h2]
    · rw [if_neg e, decide_eq_false_iff_not] at h1
      rw [if_neg (Ne.symm e), decide_eq_false_iff_not] at h2
      omega
theorem insT_perm (x : List Int) : ∀ ys, (insT x ys).Perm (x :: ys)
  | [] => .refl _
  | y :: ys => by
    unfold insT
    split
    · exact ((insT_perm x ys).cons y).trans (.swap x y ys)
    · exact .refl _
theorem tsort_perm : ∀ xs, (tsort xs).Perm xs
  | [] => .refl _
  | x :: xs => (insT_perm x _).trans ((tsort_perm xs).cons x)
abbrev SortT (l : List (List Int)) : Prop := l.Pairwise fun x y => lexL y x = false
theorem insT_sorted (x : List Int) : ∀ ys, SortT ys → SortT (insT x ys)
  | [], _ => List.pairwise_singleton _ _
  | y :: ys, h => by
    have h' := List.pairwise_cons.mp h
    unfold insT
    cases hxy : lexL y x with
    | true =>
      rw [if_pos rfl]
      refine List.pairwise_cons.mpr ⟨fun z hz => ?_, insT_sorted x ys h'.2⟩
      rcases List.mem_cons.mp ((insT_perm x ys).mem_iff.mp hz) with e | hz
      · rw [e]; exact lexL_asym _ _ hxy
      · exact h'.1 z hz
    | false =>
      rw [if_neg (by simp)]
      refine List.pairwise_cons.mpr ⟨fun z hz => ?_, h⟩
      rcases List.mem_cons.mp hz with e | hz
      · rw [e]; exact hxy
      · exact lexL_tr x y z hxy (h'.1 z hz)
theorem tsort_sorted : ∀ xs, SortT (tsort xs)
  | [] => List.Pairwise.nil
  | x :: xs => insT_sorted x _ (tsort_sorted xs)
theorem tsort_unique : ∀ {a b : List (List Int)}, a.Perm b → SortT a → SortT b → a = b
  | [], b, p, _, _ => (List.Perm.nil_eq p)
  | x :: a, [], p, _, _ => by have := p.length_eq; simp at this
  | x :: a, y :: b, p, h1, h2 => by
    have h1' := List.pairwise_cons.mp h1
    have h2' := List.pairwise_cons.mp h2
    have exy : x = y := by
      have m1 : x ∈ y :: b := p.mem_iff.mp (by simp)
      have m2 : y ∈ x :: a := p.mem_iff.mpr (by simp)
      rcases List.mem_cons.mp m1 with e | m1
      · exact e
      · rcases List.mem_cons.mp m2 with e | m2
        · exact e.symm
        · exact lexL_tot x y (h2'.1 x m1) (h1'.1 y m2)
    subst exy
    rw [tsort_unique (List.perm_cons _ |>.mp p) h1'.2 h2'.2]
theorem swo_lexL (k : Value → List Int) : SrtO.Swo fun v u => lexL (k v) (k u) := ⟨fun x y h => lexL_asym _ _ h, fun x y z h1 h2 => lexL_tr _ _ _ h1 h2⟩
/-- a tuple of ints -/
def TupI (h : Heap) (v : Value) (ns : List Int) : Prop := ∃ a o items n, v = .ref a ∧ h.get? a = some o ∧ o.cls = .type "tuple" ∧ o.data = .seq items n ∧ IntsAre items.toList ns
section
variable {prog : Program} {w : World} {A : Around} {E : Value → Shared → Prop} {s : Shared}
theorem lexT {b fin : Bool} {Q : Bool → Shared → Prop} : ∀ {xs ys : List Value} {ns ms : List Int} (i : Nat), IntsAre xs ns → IntsAre ys ms → fin = decide (xs.length < ys.length) → Q (lexL ns ms) s → PySem.W.KatLex prog w A b fin Q (xs.zip ys) i s
  | _, _, _, _, i, .nil, .nil, hf, h => by
    subst hf
    exact PySem.W.kat_nil (by simpa [lexL] using h)
  | _, _, _, _, i, .nil, .cons y u hy, hf, h => by
    subst hf
    exact PySem.W.kat_nil (by simpa [lexL] using h)
  | _, _, _, _, i, .cons x t hx, .nil, hf, h => by
    subst hf
    exact PySem.W.kat_nil (by simpa [lexL] using h)
  | _, _, _, _, i, .cons (vs := xs) (ns := ns) x t hx, .cons (vs := ys) (ns := ms) y u hy, hf, h => by
    rw [List.zip_cons_cons]
    refine PySem.W.kat_cons (SeqAt.EqAt.int_int x t y u prog w _ _ ?_)
    refine PySem.W.kat_go (fun e1 => ?_) (fun e1 => ?_)
    · have ex : x = y := by simpa using e1
      refine PySem.W.kat_yes (lexT (i + 1) hx hy (by rw [hf]; simp) ?_)
      simpa [lexL, ex] using h
    · have ex : ¬ x = y := by simpa using e1
      refine PySem.W.kat_no (TS.oneLt_ints _ ?_)
      simpa [lexL, ex] using h
theorem tup_cmp {vs : List Value} {k : Value → List Int} {b : Bool} (hp : ∀ v ∈ vs, TupI s.heap v (k v)) : SrtO.Cmp prog w A s (tuples' b) (fun p => p.1 ∈ vs) (SrtO.lt2 fun v u => lexL (k v) (k u)) := by
  intro p q hm hm'
  obtain ⟨a, o, xs, n, e, ho, hc, hd, hi⟩ := hp _ hm
  obtain ⟨a', o', ys, n', e', ho', hc', hd', hi'⟩ := hp _ hm'
  show wpAny (model prog w) A (keyLt' (tuples' b) p.1 q.1) (fun r s' => s' = s ∧ r = lexL (k p.1) (k q.1)) (fun _ _ => False) s
  generalize k p.1 = ns at hi ⊢
  generalize k q.1 = ms at hi' ⊢
  rw [e, e']
  exact PySem.W.kat_lt ho hd ho' hd' (lexT 0 hi hi' (by simp) ⟨rfl, rfl⟩)
theorem lexAt_L : ∀ {xs ys : List Value} {ns ms : List Int}, IntsAre xs ns → IntsAre ys ms → ∀ (i : Nat) (e r : Nat → Bool), (∀ j, j < ns.length → j < ms.length → e (i + j) = decide (ns.getD j 0 = ms.getD j 0) ∧ r (i + j) = decide (ns.getD j 0 < ms.getD j 0)) → Ob.lexAt e r (decide (xs.length < ys.length)) i (min xs.length ys.length) = lexL ns ms
  | _, _, _, _, .nil, .nil, i, e, r, _ => by simp [Ob.lexAt, lexL]
  | _, _, _, _, .nil, .cons y u hy, i, e, r, _ => by simp [Ob.lexAt, lexL]
  | _, _, _, _, .cons x t hx, .nil, i, e, r, _ => by simp [Ob.lexAt, lexL]
  | _, _, _, _, .cons (vs := xs) (ns := ns) x t hx, .cons (vs := ys) (ns := ms) y u hy, i, e, r, h => by
    have ih := lexAt_L hx hy (i + 1) e r fun j h1 h2 => by
      have := h (j + 1) (by simpa using h1) (by simpa using h2)
      rw [show i + 1 + j = i + (j + 1) by omega]
      simpa using this
    obtain ⟨e0, r0⟩ := h 0 (by simp) (by simp)
    simp only [Nat.add_zero, List.getD_cons_zero] at e0 r0
    have em : min (Value.int x t :: xs).length (Value.int y u :: ys).length = min xs.length ys.length + 1 := by simp
    have ed : decide ((Value.int x t :: xs).length < (Value.int y u :: ys).length) = decide (xs.length < ys.length) := by simp
    rw [em, ed, Ob.lexAt_succ, e0, r0]
    simp only [lexL, decide_eq_true_eq]
    rw [ih]
theorem ints_at : ∀ {xs : List Value} {ns : List Int}, IntsAre xs ns → ∀ j (h : j < xs.length), ∃ t, xs[j] = .int (ns.getD j 0) t
  | _, _, .nil, j, h => by simp at h
  | _, _, .cons x t hx, 0, h => ⟨t, by simp⟩
  | _, _, .cons x t hx, j + 1, h => by
    obtain ⟨t', e⟩ := ints_at hx j (by simpa using h)
    exact ⟨t', by simpa using e⟩
theorem ints_len {xs : List Value} {ns : List Int} (h : IntsAre xs ns) : xs.length = ns.length := by
  induction h with
  | nil => rfl
  | cons x t hx ih => simp [ih]
theorem tup_facts {xs ys : Array Value} {ns ms : List Int} (hi : IntsAre xs.toList ns) (hi' : IntsAre ys.toList ms) (A : Around) :
    (∀ j (h1 : j < xs.size) (h2 : j < ys.size), SeqAt.EqAt A s xs[j] ys[j] (decide (ns.getD j 0 = ms.getD j 0))) ∧
    (∀ j (h1 : j < xs.size) (h2 : j < ys.size), decide (ns.getD j 0 = ms.getD j 0) = false → Ob.RcOp .Lt A s xs[j] ys[j] (decide (ns.getD j 0 < ms.getD j 0))) ∧
    Ob.lexAt (fun j => decide (ns.getD j 0 = ms.getD j 0)) (fun j => decide (ns.getD j 0 < ms.getD j 0)) (decide (xs.size < ys.size)) 0 (min xs.size ys.size) = lexL ns ms := by
  refine ⟨fun j h1 h2 => ?_, fun j h1 h2 _ => ?_, ?_⟩
  · obtain ⟨t, e⟩ := ints_at hi j (by simpa using h1)
    obtain ⟨t', e'⟩ := ints_at hi' j (by simpa using h2)
    rw [Array.getElem_toList] at e e'
    rw [e, e']
    exact SeqAt.EqAt.int_int _ _ _ _
  · obtain ⟨t, e⟩ := ints_at hi j (by simpa using h1)
    obtain ⟨t', e'⟩ := ints_at hi' j (by simpa using h2)
    rw [Array.getElem_toList] at e e'
    rw [e, e']
    exact Ob.RcOp.lt_int _ _ _ _
  · have := lexAt_L hi hi' 0 (fun j => decide (ns.getD j 0 = ms.getD j 0)) (fun j => decide (ns.getD j 0 < ms.getD j 0)) fun j _ _ => by simp
    simpa using this
theorem tup_rc {a b : Addr} {o o' : Obj} {xs ys : Array Value} {n n' : Nat} {ns ms : List Int} (hu : A.units < cLine) (ho : s.heap.get? a = some o) (hc : o.cls = .type "tuple") (hd : o.data = .seq xs n) (hi : IntsAre xs.toList ns)
    (ho' : s.heap.get? b = some o') (hc' : o'.cls = .type "tuple") (hd' : o'.data = .seq ys n') (hi' : IntsAre ys.toList ms) : Ob.RcOp .Lt A s (.ref a) (.ref b) (lexL ns ms) := by
  obtain ⟨f1, f2, f3⟩ := tup_facts (s := s) hi hi' A.in1
  have h := Ob.RcOp.tuples_lt (A := A) (s := s) ⟨o, ho, hc, n, hd⟩ ⟨o', ho', hc', n', hd'⟩ hu (e := fun j => decide (ns.getD j 0 = ms.getD j 0)) (r := fun j => decide (ns.getD j 0 < ms.getD j 0)) f1 f2
  rw [f3] at h
  exact h
theorem tup_one {a b : Addr} {o o' : Obj} {xs ys : Array Value} {n n' : Nat} {ns ms : List Int} {c : Bool} {Q : Bool → Shared → Prop} (hu : A.units < cLine) (ho : s.heap.get? a = some o) (hc : o.cls = .type "tuple") (hd : o.data = .seq xs n) (hi : IntsAre xs.toList ns)
    (ho' : s.heap.get? b = some o') (hc' : o'.cls = .type "tuple") (hd' : o'.data = .seq ys n') (hi' : IntsAre ys.toList ms) (h : Q (lexL ns ms) s) : wpAny (model prog w) A (oneLt' c (.ref a) (.ref b)) Q E s := by
  cases c with
  | false => exact PySem.W.kat_one _ _ (tup_rc hu ho hc hd hi ho' hc' hd' hi' prog w _ _ h)
  | true =>
    obtain ⟨f1, f2, f3⟩ := tup_facts (s := s) hi hi' A.in1
    obtain ⟨cls, dd, data, sl⟩ := o
    obtain ⟨cls', dd', data', sl'⟩ := o'
    simp only at hc hd hc' hd'
    subst hc hd hc' hd'
    rw [oneLt'_eq]
    simp only [if_true]
    refine wpAny_bind (wpAny_cRoomFor hu ?_)
    refine wpAny_bind (wpAny_callSpecialIfBound?_slot (show s.TypeIs (.ref a) "tuple" from ⟨_, ho, rfl⟩) F.slot_tuple_lt (call_meets F.slot_tuple_lt ⟨_, ho, rfl⟩ F.entry_tuple_lt (F.args_tuple_lt_2 _ _) (Ob.tuple_ltAt a b xs ys n n' dd dd' sl sl' (fun j => decide (ns.getD j 0 = ms.getD j 0)) (fun j => decide (ns.getD j 0 < ms.getD j 0))) ⟨ho, ho', f1, f2, ?_⟩))
    rw [f3]
    exact wpAny_truthy_bool h
theorem tup_cmp1 {vs : List Value} {k : Value → List Int} {κ : SortKind} (hu : A.units < cLine) (hκ : κ = general' ∨ κ = oneType') (hp : ∀ v ∈ vs, TupI s.heap v (k v)) : SrtO.Cmp prog w A s κ (fun p => p.1 ∈ vs) (SrtO.lt2 fun v u => lexL (k v) (k u)) := by
  intro p q hm hm'
  obtain ⟨a, o, xs, n, e, ho, hc, hd, hi⟩ := hp _ hm
  obtain ⟨a', o', ys, n', e', ho', hc', hd', hi'⟩ := hp _ hm'
  show wpAny (model prog w) A (keyLt' κ p.1 q.1) (fun r s' => s' = s ∧ r = lexL (k p.1) (k q.1)) (fun _ _ => False) s
  generalize k p.1 = ns at hi ⊢
  generalize k q.1 = ms at hi' ⊢
  rw [e, e']
  rcases hκ with rfl | rfl
  · show wpAny (model prog w) A (oneLt' false (.ref a) (.ref a')) _ _ s
    exact tup_one hu ho hc hd hi ho' hc' hd' hi' ⟨rfl, rfl⟩
  · show wpAny (model prog w) A (oneLt' true (.ref a) (.ref a')) _ _ s
    exact tup_one hu ho hc hd hi ho' hc' hd' hi' ⟨rfl, rfl⟩
/-! ### the kind of the keys -/
def firstV : List Value → Option Value
  | [] => none
  | v :: _ => some v
theorem tup_firsts {k : Value → List Int} : ∀ (vs : List Value) {Q : List (Option Value) → Shared → Prop}, (∀ v ∈ vs, TupI s.heap v (k v)) → (∀ fs : List (Option Value), fs.length = vs.length → (∀ (i : Nat) (v : Value), vs[i]? = some v → ∃ f, fs[i]? = some f ∧ (k v = [] → f = none) ∧ (k v ≠ [] → ∃ x t, f = some (Value.int x t))) → Q fs s) → wpAny (model prog w) A (vs.mapM firstOfTuple') Q E s
  | [], Q, _, h => by rw [List.mapM_nil]; exact wpAny_pure (h [] rfl fun i v e => by simp at e)
  | v :: vs, Q, hp, h => by
    obtain ⟨a, o, xs, n, rfl, ho, hc, hd, hi⟩ := hp v (by simp)
    rw [List.mapM_cons]
    refine wpAny_bind ?_
    rw [PySem.W.kas_first_eq]
    refine wpAny_bind (PySem.W.Looks.here (show PySem.W.Looks _ s.heap (typeOf (.ref a)) o.cls from (PySem.W.Looks.ld ho).andThen .now) ?_)
    rw [hc, if_neg (by first | decide | simp)]
    refine wpAny_bind (listItems_at ho hd (wpAny_pure ?_))
    refine wpAny_bind (tup_firsts vs (fun v hv => hp v (by simp [hv])) fun fs hl hf => wpAny_pure (h (xs[0]? :: fs) (by simp [hl]) fun i v e => ?_))
    cases i with
    | zero =>
      simp only [List.getElem?_cons_zero, Option.some.injEq] at e
      subst e
      refine ⟨_, rfl, fun e => ?_, fun e => ?_⟩
      · rw [e] at hi
        have := ints_len hi
        simp only [Array.length_toList, List.length_nil] at this
        exact Array.getElem?_eq_none (by omega)
      · have hl := ints_len hi
        have hpos : 0 < xs.size := by
          rw [Array.length_toList] at hl
          cases hk : k (.ref a) with
          | nil => exact absurd hk e
          | cons _ _ => rw [hk] at hl; simp at hl; omega
        obtain ⟨t, e'⟩ := ints_at hi 0 (by simpa using hpos)
        rw [Array.getElem_toList] at e'
        exact ⟨_, t, by rw [Array.getElem?_eq_getElem hpos, e']⟩
    | succ i => exact hf i v (by simpa using e)
theorem tup_kats {k : Value → List Int} : ∀ (vs : List Value), (∀ v ∈ vs, TupI s.heap v (k v)) → (∀ v ∈ vs, k v ≠ []) → ∃ fs, PySem.W.KatTups s.heap vs fs ∧ fs.length = vs.length ∧ ∀ f ∈ fs, ∃ x t, f = Value.int x t
  | [], _, _ => ⟨[], PySem.W.KatTups.nil, rfl, by simp⟩
  | v :: vs, hp, hk => by
    obtain ⟨fs, h1, h2, h3⟩ := tup_kats vs (fun v hv => hp v (by simp [hv])) fun v hv => hk v (by simp [hv])
    obtain ⟨a, o, xs, n, rfl, ho, hc, hd, hi⟩ := hp v (by simp)
    have hl := ints_len hi
    have hpos : 0 < xs.size := by
      rw [Array.length_toList] at hl
      cases e : k (.ref a) with
      | nil => exact absurd e (hk _ (by simp))
      | cons _ _ => rw [e] at hl; simp at hl; omega
    obtain ⟨t, e'⟩ := ints_at hi 0 (by simpa using hpos)
    rw [Array.getElem_toList] at e'
    refine ⟨.int ((k (.ref a)).getD 0 0) t :: fs, PySem.W.KatTups.cons ho hc hd (by rw [Array.getElem?_eq_getElem hpos, e']) h1, by simp [h2], fun f hf => ?_⟩
    simp only [List.mem_cons] at hf
    rcases hf with rfl | hf
    · exact ⟨_, _, rfl⟩
    · exact h3 f hf
theorem tup_kind {k : Value → List Int} {vs : List Value} (h2 : 2 ≤ vs.length) (hp : ∀ v ∈ vs, TupI s.heap v (k v)) : ∃ κ, (κ = tuples' true ∨ κ = general' ∨ κ = oneType') ∧ ∀ (Q : SortKind → Shared → Prop) (E : Value → Shared → Prop), Q κ s → wpAny (model prog w) A (keyKind' vs.toArray) Q E s := by
  by_cases hall : ∀ v ∈ vs, k v ≠ []
  · obtain ⟨fs, f1, f2, f3⟩ := tup_kats vs hp hall
    refine ⟨tuples' true, .inl rfl, fun Q E hq => PySem.W.kat_kind (T := .type "int") f1 (by omega) (fun f hm => ?_) (by rfl) ?_⟩
    · obtain ⟨x, t, rfl⟩ := f3 f hm
      exact PySem.W.Looks.now
    · have e : (Value.type "int" != Value.type "tuple") = true := by first | decide +kernel | rfl | decide
      rw [e]
      exact hq
  · obtain ⟨v0, hv0, hk0⟩ : ∃ v ∈ vs, k v = [] := Classical.byContradiction fun hn => hall fun v hv e => hn ⟨v, hv, e⟩
    obtain ⟨v1, vr, rfl⟩ : ∃ v1 vr, vs = v1 :: vr := by
      cases vs with
      | nil => simp at h2
      | cons v1 vr => exact ⟨v1, vr, rfl⟩
    obtain ⟨i0, hi0⟩ := List.mem_iff_getElem?.mp hv0
    by_cases h1 : k v1 = []
    · refine ⟨oneType', .inr (.inr rfl), fun Q E hq => ?_⟩
      rw [kat_kind_eq, List.mapM_toArray, map_eq_pure_bind]
      refine wpAny_bind (wpAny_bind (tup_firsts _ hp fun fs hl hf => wpAny_pure ?_))
      have hno : (fs.toArray.all fun x => x.isSome) = false := by
        obtain ⟨f, hf1, hf2, _⟩ := hf i0 v0 hi0
        rw [hf2 hk0] at hf1
        have hm := List.mem_of_getElem? hf1
        rw [Bool.eq_false_iff]
        intro z
        have := List.all_eq_true.mp (by simpa using z) _ hm
        simp at this
      obtain ⟨f, hf1, hf2, _⟩ := hf 0 v1 (by simp)
      have h0 : (fs.toArray[0]?.bind id) = none := by
        rw [List.getElem?_toArray, hf1, hf2 h1]; rfl
      rw [if_neg (by rw [hno]; simp)]
      rw [if_neg (by rw [h0]; simp)]
      rw [oneTypeOnly'_eq, List.mapM_toArray, map_eq_pure_bind]
      refine wpAny_bind (wpAny_bind (wpAny_bind (PySem.W.kas_mapM (r := .type "tuple") _ (fun v hv Q' hq => ?_) (wpAny_pure ?_))))
      · obtain ⟨a, o, xs, n, rfl, ho, hc, hd, hi⟩ := hp v hv
        exact PySem.W.Looks.here (show PySem.W.Looks _ s.heap (typeOf (.ref a)) (.type "tuple") from hc ▸ (PySem.W.Looks.ld ho).andThen .now) hq
      · have hall2 : ((List.map (fun _ => Value.type "tuple") (v1 :: vr)).toArray.all fun x => x == Value.type "tuple") = true := by
          simp only [List.all_toArray, List.all_map, List.all_eq_true]
          intro _ _
          exact (show (Value.type "tuple" == Value.type "tuple") = true from rfl)
        have h00 : (List.map (fun _ => Value.type "tuple") (v1 :: vr)).toArray[0]? = some (Value.type "tuple") := by simp
        rw [h00]
        simp only [hall2, if_true]
        exact wpAny_pure (wpAny_pure hq)
    · refine ⟨general', .inr (.inl rfl), fun Q E hq => ?_⟩
      rw [kat_kind_eq, List.mapM_toArray, map_eq_pure_bind]
      refine wpAny_bind (wpAny_bind (tup_firsts _ hp fun fs hl hf => wpAny_pure ?_))
      have hno : (fs.toArray.all fun x => x.isSome) = false := by
        obtain ⟨f, hf1, hf2, _⟩ := hf i0 v0 hi0
        rw [hf2 hk0] at hf1
        have hm := List.mem_of_getElem? hf1
        rw [Bool.eq_false_iff]
        intro z
        have := List.all_eq_true.mp (by simpa using z) _ hm
        simp at this
      obtain ⟨f, hf1, _, hf3⟩ := hf 0 v1 (by simp)
      obtain ⟨x, t, rfl⟩ := hf3 h1
      have h0 : (fs.toArray[0]?.bind id).isSome = true := by
        rw [List.getElem?_toArray, hf1]; rfl
      rw [if_neg (by rw [hno]; simp)]
      rw [if_pos h0]
      exact wpAny_pure hq
end
end Tk
set_option linter.all false
set_option Elab.async false
set_option maxRecDepth 100000
set_option maxHeartbeats 1000000
/-! TkSortU: sorted(list of tuples of ints), sorted(dict with such keys). -/
namespace Tk
open PySem PySem.Spec PyProof.Rows L2
section
variable {prog : Program} {w : World} {A : Around} {E : Value → Shared → Prop} {s : Shared}
theorem TupI.keeps {h h' : Heap} {v : Value} {ns : List Int} (x : TupI h v ns) (k : ∀ b o, h.get? b = some o → o.cls = .type "tuple" → h'.get? b = some o) : TupI h' v ns :=
  let ⟨a, o, items, n, e, ho, hc, r⟩ := x
  ⟨a, o, items, n, e, k a o ho hc, hc, r⟩
theorem tups_sortable {a : Addr} {vs : List Value} {k : Value → List Int} (hu : A.units < cLine) (h2 : 2 ≤ vs.length) (hp : ∀ v ∈ vs, TupI s.heap v (k v)) (ha : ∀ o, s.heap.get? a = some o → o.cls ≠ .type "tuple") : SrtO.SortableO prog w A s a vs fun v u => lexL (k v) (k u) := by
  intro h' keep
  have hp' : ∀ v ∈ vs, TupI h' v (k v) := fun v hm => (hp v hm).keeps fun b o e c => keep b o (fun z => by subst z; exact ha o e c) e
  obtain ⟨κ, hκ, hk⟩ := tup_kind (prog := prog) (w := w) (A := A) (s := { s with heap := h' }) h2 hp'
  refine ⟨κ, hk, ?_⟩
  rcases hκ with rfl | hκ
  · exact tup_cmp hp'
  · exact tup_cmp1 hu hκ hp'
end
/-- values that are objects -/
def vvR : V → Value
  | .ref b => .ref b
  | _ => .none
def bkR : Value → V
  | .ref b => .ref b
  | _ => .non
theorem vals_refs : ∀ {xs : List V} {its : List Value}, Vals xs its → (∀ x ∈ xs, ∃ b, x = .ref b) → its = xs.map vvR
  | [], [], .nil, _ => rfl
  | x :: xs, u :: us, .cons r t, h => by
    obtain ⟨b, rfl⟩ := h x (by simp)
    obtain rfl : u = Value.ref b := r
    rw [List.map_cons, ← vals_refs t fun x hx => h x (by simp [hx])]
    rfl
theorem vals_back : ∀ {out : List Value}, (∀ v ∈ out, ∃ b, v = Value.ref b) → Vals (out.map bkR) out
  | [], _ => .nil
  | v :: out, h => by
    obtain ⟨b, rfl⟩ := h v (by simp)
    exact .cons rfl (vals_back fun v hv => h v (by simp [hv]))
theorem bk_vv {xs : List V} (h : ∀ x ∈ xs, ∃ b, x = .ref b) : (xs.map vvR).map bkR = xs := by
  rw [List.map_map]
  conv => rhs; rw [← List.map_id xs]
  refine List.map_congr_left fun x hx => ?_
  obtain ⟨b, rfl⟩ := h x hx
  rfl
/-- the sorted list, told of the things themselves -/
theorem sort_out {xs : List V} {its out : List Value} {k : V → List Int} (hr : ∀ x ∈ xs, ∃ b, x = .ref b) (rv : Vals xs its) (hs : SrtO.Srtd (fun v u => lexL (k (bkR v)) (k (bkR u))) out) (hb : SrtO.Stb (fun v u => lexL (k (bkR v)) (k (bkR u))) out its) :
    Vals (out.map bkR) out ∧ (out.map bkR).Perm xs ∧ (out.map bkR).Pairwise (fun x y => lexL (k y) (k x) = false) := by
  have hi := vals_refs rv hr
  have hp := hb.perm
  have hm : ∀ v ∈ out, ∃ b, v = Value.ref b := fun v hv => by
    have := hp.mem_iff.mp hv
    rw [hi] at this
    obtain ⟨x, hx, rfl⟩ := List.mem_map.mp this
    obtain ⟨b, rfl⟩ := hr x hx
    exact ⟨b, rfl⟩
  refine ⟨vals_back hm, ?_, List.pairwise_map.mpr hs⟩
  have := hp.map bkR
  rw [hi, bk_vv hr] at this
  exact this
section
variable {X : Cx}
def rSortLT (K : PySem.W.Frag) : List V → Hp → VK → Prop := fun vs H Q => ∃ (a : Addr) (xs : List V) (k : V → List Int), vs = [V.ref a] ∧ SqL K H a xs ∧ (∀ x ∈ xs, ∃ b, x = .ref b ∧ SqT K H b ((k x).map V.int)) ∧
  ∀ (ys : List V) (p : Addr), ys.Perm xs → ys.Pairwise (fun x y => lexL (k y) (k x) = false) → H p = none → Q (.ref p) (upd H p (.lst ys))
theorem tupI_of {pins : List (Addr × Obj)} {σ : L2.St} {H : Hp} {s : Shared} {b : Addr} {ns : List Int} (I : Inv X pins σ H s) (h : SqT X.K H b (ns.map V.int)) : TupI s.heap (.ref b) ns := by
  obtain ⟨its, rv, p, _⟩ := I.tuple h
  obtain ⟨o, ho, hc, n, hd⟩ := p
  exact ⟨b, o, its.toArray, n, rfl, ho, hc, hd, by simpa using rv.ints⟩
theorem cr_sortLT (hu : X.A.units + 65 < cLine) : CallR X (.builtin "sorted") (rSortLT X.K) := by
  intro pins s σ H vs us Q I r h
  obtain ⟨a, xs, k, rfl, hs, hx, q⟩ := h
  obtain ⟨its, rv, hl, hz⟩ := I.list hs
  rw [Vals.ref1 r]
  have hr : ∀ x ∈ xs, ∃ b, x = .ref b := fun x hm => let ⟨b, e, _⟩ := hx x hm; ⟨b, e⟩
  have hi := vals_refs rv hr
  have hp : ∀ v ∈ its, TupI s.heap v (k (bkR v)) := fun v hv => by
    rw [hi] at hv
    obtain ⟨x, hm, rfl⟩ := List.mem_map.mp hv
    obtain ⟨b, rfl, hb⟩ := hx x hm
    exact tupI_of I hb
  refine SrtO.sorted_ord (swo_lexL fun v => k (bkR v)) hl.isList (by rw [← rv.length]; exact hz) (fun h2 h₁ a' ha' hk' => tups_sortable (k := fun v => k (bkR v)) ?_ h2 (fun v hv => (hp v hv).keeps fun b o e _ => (hk' b o e).2) fun o e => ?_) fun out o1 o2 => ?_
  · show X.A.in1.in1.units < cLine
    simp only [Around.in1]
    omega
  · have e' : h₁.get? a' = some o := e
    rw [ha'] at e'
    cases e'
    simp [seqObj]
  · obtain ⟨k1, k2, k3⟩ := sort_out hr rv o1 o2
    obtain ⟨ep, he'⟩ := sortedAll_at s.heap its out.toArray
    have hlen : (out.map bkR).length ≤ sizeLine := by rw [k2.length_eq]; exact hz
    exact ⟨.ref _, upd H (s.heap.objs.size + 1) (.lst (out.map bkR)), I.laid (t' := s.toks) (fun _ _ => sortedAll_old) (Nat.le_succ _) ⟨hlen, out, ep, k1, he'⟩, rfl, q _ _ k2 k3 (I.hok.fresh (Nat.le_succ _))⟩
end
/-! ### sorted(dict) -/
section
variable {prog : Program} {w : World} {A : Around} {E : Value → Shared → Prop} {s : Shared} {d : Addr} {es : Array DictEntry} {ep : Nat}
theorem src_raw (lo : (d == sysModules) = false) : PySem.W.KdlSrc prog w "dict" d d es.size (fun i v => ∃ hi : i < es.size, v = es[i].key) (fun h => h.DictRaw d es ep) where
  type := fun _ hm => hm.typeIs
  there := fun _ hm => let ⟨_, e, _⟩ := hm; ⟨Heap.lt_size e, Heap.lt_size e⟩
  keep := fun _ _ hm hk => hm.at fun o e => hk d (.inl rfl) o e
  notList := by decide
  notTuple := by decide
  hint := fun _ _ _ _ hm hq => PySem.W.kdl_hint_dict hm.typeIs hq
  iter := fun A s hh hm => by
    obtain ⟨o, ho, hc, hdt⟩ := id hm
    refine ⟨_, _, fun E Q hq => iter_keys lo ho hc hdt hq, Walks.rawKeys hh _ d (Nat.ne_of_lt (Heap.lt_size ho)) es ep, ⟨⟨_, Heap.get?_push_size _ rfl, rfl, rfl⟩, hm.at fun o e => Heap.get?_push_of_some _ e⟩⟩
theorem items_keys {acc : Array Value} (h : ItemsOf (fun i v => ∃ hi : i < es.size, v = es[i].key) acc es.size) : acc.toList = es.toList.map (·.key) := by
  apply List.ext_getElem
  · rw [Array.length_toList, h.1, List.length_map, Array.length_toList]
  · intro i h1 h2
    have hi : i < acc.size := by rw [Array.length_toList] at h1; exact h1
    obtain ⟨hj, e⟩ := h.2 i _ (Array.getElem?_eq_getElem hi)
    rw [Array.getElem_toList, e, List.getElem_map, Array.getElem_toList]
theorem collect_raw {Q : List Value → Shared → Prop} (hh : A.handled = none) (lo : (d == sysModules) = false) (hm : s.heap.DictRaw d es ep) (hn : es.size ≤ sizeLine)
    (hQ : ∀ h' tk, (∀ b o, s.heap.get? b = some o → h'.get? b = some o) → s.heap.objs.size ≤ h'.objs.size → Q (es.toList.map (·.key)) { s with heap := h', toks := tk }) :
    wpAny (model prog w) A (collect (.ref d)) Q E s := by
  have hlt : d < s.heap.objs.size := let ⟨_, e, _⟩ := hm; Heap.lt_size e
  unfold collect
  refine wpAny_bind (wpAny_runValue (codeAny_builtin F.entry_proto_collect ?_))
  rw [Around.under_plainId F.plain_proto_collect _]
  show wpAny _ A.in1 (newList [] >>= fun l => again (.builtin "list.__iadd__" ⟨[l, .ref d], []⟩)) _ _ s
  refine wpAny_bind (wpAny_newObj_type ?_)
  refine wpAny_pure ⟨plainId_quiet F.plain_list_iadd _, codeAny_builtin F.entry_list_iadd ?_⟩
  rw [Around.under_plainId F.plain_list_iadd _]
  have hS : (s.heap.push { cls := .type "list", data := .seq ([] : List Value).toArray }).get? s.heap.objs.size = some { cls := .type "list", data := .seq ([] : List Value).toArray } := Heap.get?_push_size _ rfl
  have hm1 : (s.heap.push { cls := .type "list", data := .seq ([] : List Value).toArray }).DictRaw d es ep := hm.at fun u e => Heap.get?_push_of_some _ e
  have fin : ∀ (r : Result) (s' : Shared), (∃ (h' : Heap) (tk : Nat) (acc' : Array Value) (c' : Nat), r = .ok (.ret (.ref s.heap.objs.size)) ∧ s' = { s with heap := h', toks := tk } ∧ (∀ b o, b ≠ s.heap.objs.size → (s.heap.push { cls := .type "list", data := .seq ([] : List Value).toArray }).get? b = some o → h'.get? b = some o) ∧ h'.get? s.heap.objs.size = some { cls := .type "list", dict := none, data := .seq acc' c', slots := #[] } ∧ ItemsOf (fun i v => ∃ hi : i < es.size, v = es[i].key) acc' es.size) →
      wpAny (model prog w) A (load s.heap.objs.size) (fun o s'' => s'' = s' ∧ ∃ acc' c', o.data = .seq acc' c' ∧ Q acc'.toList s') E s' ∧ r = .ok (.ret (.ref s.heap.objs.size)) := by
    rintro r s' ⟨h', tk, acc', c', rfl, rfl, hk, hS', hacc⟩
    refine ⟨wpAny_load hS' ⟨rfl, acc', c', rfl, ?_⟩, rfl⟩
    rw [items_keys hacc]
    exact hQ h' tk (fun b o e => hk b o (Nat.ne_of_lt (Heap.lt_size e)) (Heap.get?_push_of_some _ e)) (Nat.le_of_lt (Heap.lt_size hS'))
  have key := PySem.W.kdl_extend (prog := prog) (w := w) (A := A) (s := { s with heap := s.heap.push { cls := .type "list", data := .seq ([] : List Value).toArray } }) (R := fun r s' => ∃ (h' : Heap) (tk : Nat) (acc' : Array Value) (c' : Nat), r = .ok (.ret (.ref s.heap.objs.size)) ∧ s' = { s with heap := h', toks := tk } ∧ (∀ b o, b ≠ s.heap.objs.size → (s.heap.push { cls := .type "list", data := .seq ([] : List Value).toArray }).get? b = some o → h'.get? b = some o) ∧ h'.get? s.heap.objs.size = some { cls := .type "list", dict := none, data := .seq acc' c', slots := #[] } ∧ ItemsOf (fun i v => ∃ hi : i < es.size, v = es[i].key) acc' es.size)
    (src_raw lo) hh hm1 s.heap.objs.size (Nat.ne_of_gt hlt) (Nat.ne_of_gt hlt) (.ref s.heap.objs.size) 0 hS (fun h' tk acc' c' hk hS' hacc => ⟨h', tk, acc', c', rfl, rfl, hk, hS', hacc⟩) hn
  have go : ∀ (s' : Shared), wpAny (model prog w) A (load s.heap.objs.size) (fun o s'' => s'' = s' ∧ ∃ acc' c', o.data = .seq acc' c' ∧ Q acc'.toList s') E s' → wpAny (model prog w) A (do
      let z ← load s.heap.objs.size
      match z.data with
      | .seq ys _ => pure ys.toList
      | _ => unsupported "internal:collect") Q E s' := fun s' h => wpAny_bind (wpAny_mono h (fun o s'' ⟨e, acc', c', hd, hq⟩ => by
    subst e
    rw [hd]
    exact wpAny_pure hq) fun _ _ z => z)
  refine wpAny_mono (show wpAny _ A.in1 (Builtin.List.listExtendWith (.ref s.heap.objs.size) (.ref d) (.ref s.heap.objs.size)) _ _ _ from key) (fun f s' h => ?_) (fun e s' h => ?_)
  · cases f with
    | done f =>
      obtain ⟨h1, h2⟩ := fin _ _ h
      injection h2 with h2
      subst h2
      exact go s' h1
    | again c' =>
      refine ⟨h.1, codeAny_mono h.2 fun r s' h => ?_⟩
      obtain ⟨h1, h2⟩ := fin _ _ h
      subst h2
      exact go s' h1
  · obtain ⟨_, h2⟩ := fin _ _ h
    cases h2
/-- sorted of a dict -/
theorem sorted_raw {ltv : Value → Value → Bool} {Q : Value → Shared → Prop} (hh : A.handled = none) (lo : (d == sysModules) = false) (hm : s.heap.DictRaw d es ep) (hz : es.size ≤ sizeLine) (O : SrtO.Swo ltv)
    (hS : 2 ≤ es.size → ∀ (h₁ : Heap) (a : Addr) (tk : Nat), h₁.get? a = some (seqObj "list" (es.toList.map (·.key)).toArray 0) → (∀ b o, s.heap.get? b = some o → b ≠ a ∧ h₁.get? b = some o) → SrtO.SortableO prog w A.in1.in1 { s with heap := h₁, toks := tk } a (es.toList.map (·.key)) ltv)
    (h : ∀ (out : List Value) (h' : Heap) (tk n : Nat) (p : Addr), SrtO.Srtd ltv out → SrtO.Stb ltv out (es.toList.map (·.key)) → (∀ b o, s.heap.get? b = some o → h'.get? b = some o) → s.heap.objs.size ≤ p → h'.get? p = some (seqObj "list" out.toArray n) → Q (.ref p) { s with heap := h', toks := tk }) :
    wpAny (model prog w) A (call (.builtin "sorted") [.ref d]) Q E s := by
  refine Calls.call_function_entry kind_sorted plain_sorted entry_sorted (args_sorted1 _) ?_
  unfold Builtin.«sorted»
  refine wpAny_bind (m := checkCount "sorted" 1 1 _) (wpAny_pure (wpAny_bind (collect_raw (A := A.in1) hh lo hm hz fun h1 tk k1 z1 => wpAny_bind (wpAny_newList ?_ (by simpa using hz)))))
  generalize hvs : es.toList.map (·.key) = vs at *
  have hvl : vs.length = es.size := by rw [← hvs]; simp
  have e2 : (h1.push (seqObj "list" vs.toArray 0)).get? h1.objs.size = some (seqObj "list" vs.toArray 0) := Heap.get?_push_size _ rfl
  have e3 : ∀ b o, s.heap.get? b = some o → b ≠ h1.objs.size ∧ (h1.push (seqObj "list" vs.toArray 0)).get? b = some o := fun b o q =>
    ⟨Nat.ne_of_lt (Heap.lt_size (k1 b o q)), Heap.get?_push_of_some _ (k1 b o q)⟩
  refine wpAny_bind (wpAny_holding (wpAny_call_entry slot_list_sort ⟨_, e2, rfl⟩ entry_list_sort (SrtO.list_sort_ord O e2 (by rw [hvl]; exact hz) (fun h2 => hS (by rw [← hvl]; exact h2) _ _ _ e2 e3) fun out hs hb => ⟨_, rfl, wpAny_pure ⟨_, rfl, ?_⟩⟩) (args_list_sort _)))
  obtain ⟨n, hn⟩ := sortedHeap_at (vs := vs) (out := out.toArray) e2
  exact h out _ _ n h1.objs.size hs hb (fun b o q => (sortedHeap_old (e3 b o q).1 (Heap.lt_size (e3 b o q).2)).trans (e3 b o q).2) z1 hn
end
section
variable {X : Cx}
theorem vals_keys : ∀ xs : List KEnt, Vals (xs.map fun x => V.ref x.2.1) (xs.map fun x => Value.ref x.2.1)
  | [] => .nil
  | x :: xs => .cons rfl (vals_keys xs)
def rSortDN (K : PySem.W.Frag) : List V → Hp → VK → Prop := fun vs H Q => ∃ (a : Addr) (o : Obj) (xs : List KEnt) (k : V → List Int), vs = [V.ref a] ∧ H a = some (DO a o) ∧ GoodD a o xs ∧ (∀ x ∈ xs, SqT K H x.2.1 ((k (.ref x.2.1)).map V.int)) ∧
  ∀ (ys : List V) (p : Addr), ys.Perm (xs.map fun x => .ref x.2.1) → ys.Pairwise (fun x y => lexL (k y) (k x) = false) → H p = none → Q (.ref p) (upd H p (.lst ys))
theorem cr_sortDN (hc : X.calm = true) (hu : X.A.units + 65 < cLine) : CallR X (.builtin "sorted") (rSortDN X.K) := by
  intro pins s σ H vs us Q I r h
  obtain ⟨a, o, xs, k, rfl, hd, g, hx, q⟩ := h
  rw [Vals.ref1 r]
  obtain ⟨es, ep, h1, h2, h3, h4⟩ := dn_raw I hd g
  have hz : es.size ≤ sizeLine := by rw [h3]; exact g.len
  have hk : es.toList.map (·.key) = xs.map fun x => Value.ref x.2.1 := by
    apply List.ext_getElem?
    intro i
    rw [List.getElem?_map, List.getElem?_map, Array.getElem?_toList]
    cases hxi : xs[i]? with
    | none =>
      rw [Array.getElem?_eq_none (by rw [h3]; exact List.getElem?_eq_none_iff.mp hxi)]
      rfl
    | some x =>
      obtain ⟨en, e1, e2, _⟩ := h4 i x hxi
      rw [e1]
      simp [e2]
  have hp : ∀ v ∈ es.toList.map (·.key), TupI s.heap v (k (bkR v)) := fun v hv => by
    rw [hk] at hv
    obtain ⟨x, hm, rfl⟩ := List.mem_map.mp hv
    exact tupI_of I (hx x hm)
  refine sorted_raw (I.ok.hd hc) g.sys h2 hz (swo_lexL fun v => k (bkR v)) (fun h2 h₁ a' tk ha' hk' => tups_sortable (k := fun v => k (bkR v)) ?_ (by simpa using h2) (fun v hv => (hp v hv).keeps fun b o e _ => (hk' b o e).2) fun o e => ?_) fun out h' tk n p o1 o2 kp zp hn => ?_
  · show X.A.in1.in1.units < cLine
    simp only [Around.in1]
    omega
  · have e' : h₁.get? a' = some o := e
    rw [ha'] at e'
    cases e'
    simp [seqObj]
  · rw [hk] at o2
    have rv : Vals (xs.map fun x => V.ref x.2.1) (xs.map fun x => Value.ref x.2.1) := by
      exact vals_keys xs
    obtain ⟨k1, k2, k3⟩ := sort_out (fun x hm => by
      obtain ⟨y, _, rfl⟩ := List.mem_map.mp hm
      exact ⟨_, rfl⟩) rv o1 o2
    have hlen : (out.map bkR).length ≤ sizeLine := by rw [k2.length_eq, List.length_map]; exact g.len
    exact ⟨.ref p, upd H p (.lst (out.map bkR)), I.laid (t' := tk) (h' := h') kp zp ⟨hlen, out, n, k1, hn⟩, rfl, q _ _ k2 k3 (I.hok.fresh zp)⟩
end
end Tk
set_option linter.all false
set_option Elab.async false
set_option maxRecDepth 100000
set_option maxHeartbeats 1000000
namespace Tk
open PySem L2

/-! ### promises -/
/-- all stands -/
def Ex (H H' : Hp) : Prop := ∀ a o, H a = some o → H' a = some o
/-- a def that changes nothing: the meaning f -/
def spP (K : PySem.W.Frag) (mg : Str → Option Value) (n : Nat) (f : List D → O D) : Sp := fun vs H Q E => vs.length = n ∧ ∃ ds A, (∀ a, A a → ∃ m : Mu, H a = some m.o) ∧ DatL K H A vs ds ∧ match f ds with
  | .ok d => ∀ v H', Ex H H' → Dat K H' A v d → Q v H'
  | .er c => ∀ C H', mg c = some (.ref C) → Ex H H' → E (.ref C) none H'
  | .bad => False
/-- .. and returns a new list -/
def spF (K : PySem.W.Frag) (mg : Str → Option Value) (n : Nat) (f : List D → O D) : Sp := fun vs H Q E => vs.length = n ∧ ∃ ds A, (∀ a, A a → ∃ m : Mu, H a = some m.o) ∧ DatL K H A vs ds ∧ match f ds with
  | .ok d => ∀ v H', Ex H H' → Dat K H' A v d → (isL d = true → ∃ p, v = .ref p ∧ H p = none ∧ Obj1 K H' (fun a => a = p ∨ A a) p d) → Q v H'
  | .er c => ∀ C H', mg c = some (.ref C) → Ex H H' → E (.ref C) none H'
  | .bad => False
/-- .. that takes the draws as its first argument -/
def spD (K : PySem.W.Frag) (n : Nat) (f : List D → List Int × Int → O (D × (List Int × Int))) : Sp := fun vs H Q E => vs.length = n + 1 ∧ ∃ us ds A p q ns m, vs = .ref p :: us ∧ (∀ a, A a → ∃ m : Mu, H a = some m.o) ∧ DatL K H A us ds ∧
  H p = some (.lst [.ref q, .int m]) ∧ H q = some (.lst (ns.map V.int)) ∧ p ≠ q ∧ A p ∧ A q ∧ match f ds (ns, m) with
  | .ok (d, (ns', m')) => ∀ v H', (∀ a o, H a = some o → a ≠ p → a ≠ q → H' a = some o) → H' p = some (.lst [.ref q, .int m']) → H' q = some (.lst (ns'.map V.int)) → Dat K H' A v d → Q v H'
  | _ => False
/-- .. that writes its argument j, a list -/
def spM (K : PySem.W.Frag) (n j : Nat) (f : List D → O D) : Sp := fun vs H Q E => vs.length = n ∧ ∃ (ds : List D) (A : Addr → Prop) (a : Addr) (xs : List V) (es : List D), vs[j]? = some (.ref a) ∧ ds[j]? = some (.list es) ∧ (∀ a, A a → ∃ m : Mu, H a = some m.o) ∧ ¬ A a ∧ H a = some (.lst xs) ∧ DatL K H (fun b => A b ∨ b = a) xs es ∧
  vs.length = ds.length ∧ (∀ i v d, i ≠ j → vs[i]? = some v → ds[i]? = some d → Dat K H (fun b => A b ∨ b = a) v d) ∧ match f ds with
  | .ok (.list es') => ∀ H' ys, (∀ b o, H b = some o → b ≠ a → H' b = some o) → H' a = some (.lst ys) → DatL K H' (fun b => A b ∨ b = a) ys es' → Q .non H'
  | _ => False

def blts : List Str := ["len", "list", "tuple", "max", "min", "sum", "all", "any", "isinstance", "int", "bool", "str", "range", "enumerate", "zip", "sorted", "set"]
def WXof (X : Cx) (W : WS) : WX := fun cls d σ H => ∃ e C, X.mg e = some (.ref C) ∧ cls = .ref C ∧ d = none ∧ W e σ H
structure Good (c : Ctx) (F : Tab) (X : Cx) (W : WS) : Prop where
  N : X.N = c.N
  sc : X.env.scope = c.sc
  fn : X.fn = c.fnc
  nd : X.N.Nodup
  calm : X.calm = true
  kind : X.env.scope.kind = .function
  un : X.A.units + 65 < cLine
  bl : ∀ b ∈ blts, c.G.lookup b = none → X.mg b = none
  co : ∀ x d, c.G.lookup x = some (.co d) → ∃ u v, X.mg x = some u ∧ RelV v u ∧ ∀ H A, Dat X.K H A v d
  pu : ∀ x, c.G.lookup x = some .pu → ∃ g k f fd ps n, F x = some (.pu g) ∧ FnOk X.prog X.w X.K X.mg X.base (L2.CX X.prog X.w) k f fd ps (spP X.K X.mg n g) ∧ Room k X.A ∧ X.mg x = some (.ref f) ∧ PySem.W.keepIn X.K (.ref f) = true ∧ Binds X.K fd ps [] ∧ ps.length = n ∧ ∀ ds, ds.length ≠ n → g ds = .bad
  pf : ∀ x, c.G.lookup x = some .pf → ∃ g k f fd ps n, F x = some (.pu g) ∧ FnOk X.prog X.w X.K X.mg X.base (L2.CX X.prog X.w) k f fd ps (spF X.K X.mg n g) ∧ Room k X.A ∧ X.mg x = some (.ref f) ∧ PySem.W.keepIn X.K (.ref f) = true ∧ Binds X.K fd ps [] ∧ ps.length = n ∧ ∀ ds, ds.length ≠ n → g ds = .bad
  dw : ∀ x, c.G.lookup x = some .dw → ∃ g k f fd ps n, F x = some (.dw g) ∧ FnOk X.prog X.w X.K X.mg X.base (L2.CX X.prog X.w) k f fd ps (spD X.K n g) ∧ Room k X.A ∧ X.mg x = some (.ref f) ∧ PySem.W.keepIn X.K (.ref f) = true ∧ Binds X.K fd ps [] ∧ ps.length = n + 1 ∧ ∀ ds q, ds.length ≠ n → g ds q = .bad
  mu : ∀ x j, c.G.lookup x = some (.mu j) → ∃ g k f fd ps n, F x = some (.mu j g) ∧ FnOk X.prog X.w X.K X.mg X.base (L2.CX X.prog X.w) k f fd ps (spM X.K n j g) ∧ Room k X.A ∧ X.mg x = some (.ref f) ∧ PySem.W.keepIn X.K (.ref f) = true ∧ Binds X.K fd ps [] ∧ ps.length = n ∧ ∀ ds, ds.length ≠ n → g ds = .bad
  tk : Takes X (WXof X W)

section
variable {F : Tab} {W : WS} {X : Cx} {c : Ctx} {a b : Expr} {e ea eb ec : E} {pos p : Pos}
/-- no star in it -/
def NoStar (X : Cx) : List Expr → Prop
  | [] => True
  | a :: as => starEach (a :: as) X.env = (false, eval a X.env) :: starEach as X.env ∧ NoStar X as
theorem noStar_any {pos : Pos} : ∀ {as : List Expr}, NoStar X as → (backTo pos (starEach as X.env)).any (·.1) = false
  | [], _ => by simp [starEach, backTo]
  | a :: as, h => by
    rw [h.1]
    have := noStar_any (pos := pos) h.2
    simp only [backTo, List.any_map, List.any_cons, List.map_cons] at this ⊢
    simpa using this
theorem dc_len {K : PySem.W.Frag} {Φ : Fm} {σ : L2.St} {H : Hp} {ρ : Env} {es : Es} {vs : List V} {ds : List D} (h : ArgL K Φ σ H ρ es vs ds) : vs.length = ds.length := h.dat.length
theorem Rel.avLst {K : PySem.W.Frag} {Φ : Fm} {σ : L2.St} {H : Hp} {ρ : Env} {δ : DS} (r : Rel K Φ σ H ρ δ) (Y : List Nat) : ∀ a, AvX Φ σ ρ Y a → ∃ m : Mu, H a = some m.o := fun a h => Av.lst r h.av
theorem Ex.gr {Φ : Fm} {H H' : Hp} (h : Ex H H') : Gr Φ H H' := fun a o e _ => h a o e
/-- f(e, ..) -/
theorem d_ca {x : Str} {as : List Expr} {es : Es} (G : Good c F X W) (hg : c.G.lookup x = some .pu) (gl : Gl X x) (hd : (x == ("__debug__" : Str)) = false) (h : PA X (a :: as) (tDs F X.K W (.cons ea es))) (ns : NoStar X (a :: as)) : PE X (.Call (.Name x p) (a :: as) [] pos) (tD F X.K W (.ca x (.cons ea es))) := by
  obtain ⟨g, k, f, fd, ps, n, hF, ok, rm, hm, kp, bi, hl, har⟩ := G.pu x hg
  refine PE.imp (pe_callS ok rm gl hm kp bi (fun σ => passAt G.tk σ) h hd ns.1 (noStar_any ns.2)) fun σ H Q ⟨Φ, ρ, δ, r, q⟩ => ?_
  simp only [ev, hF] at q
  refine PostG.binds r q fun vs H1 ds δ1 r1 g1 q1 q => ?_
  by_cases hn : ds.length = n
  · refine ⟨by rw [dc_len q1]; exact hn, ds, AvX Φ σ ρ (escs (.cons ea es)), r1.avLst _, q1.dat, ?_⟩
    cases hr : g ds with
    | ok d =>
      rw [hr] at q
      intro v H' ex dat
      exact q H' ex.gr (r1.ds.grow0 ex) v (by simpa [esc, esc1] using dat.to2) (fun z => nomatch z)
    | er e =>
      rw [hr] at q
      intro C H' hC ex
      exact ⟨e, C, hC, rfl, rfl, q H' ex.gr (r1.ds.grow0 ex)⟩
    | bad => rw [hr] at q; exact q
  · rw [har ds hn] at q
    exact q.elim
theorem Gr.noneB {K : PySem.W.Frag} {Φ : Fm} {σ : L2.St} {H H1 : Hp} {ρ : Env} {δ1 : DS} {p : Addr} (g : Gr Φ H H1) (r1 : Rel K Φ σ H1 ρ δ1) (hn : H1 p = none) : H p = none := by
  cases h : H p with
  | none => rfl
  | some o =>
    have nd : ¬ Dr Φ p := fun z => Av.fresh r1 hn (.inl (z.A r1.ds))
    rw [g p o h nd] at hn; cases hn
/-- f(e, ..), a new list -/
theorem d_cf {x : Str} {as : List Expr} {es : Es} (G : Good c F X W) (hg : c.G.lookup x = some .pf) (gl : Gl X x) (hd : (x == ("__debug__" : Str)) = false) (h : PA X (a :: as) (tDs F X.K W (.cons ea es))) (ns : NoStar X (a :: as)) : PE X (.Call (.Name x p) (a :: as) [] pos) (tD F X.K W (.cf x (.cons ea es))) := by
  obtain ⟨g, k, f, fd, ps, n, hF, ok, rm, hm, kp, bi, hl, har⟩ := G.pf x hg
  refine PE.imp (pe_callS ok rm gl hm kp bi (fun σ => passAt G.tk σ) h hd ns.1 (noStar_any ns.2)) fun σ H Q ⟨Φ, ρ, δ, r, q⟩ => ?_
  simp only [ev, hF] at q
  refine PostG.binds r q fun vs H1 ds δ1 r1 g1 q1 q => ?_
  by_cases hn : ds.length = n
  · refine ⟨by rw [dc_len q1]; exact hn, ds, AvX Φ σ ρ (escs (.cons ea es)), r1.avLst _, q1.dat, ?_⟩
    cases hr : g ds with
    | ok d =>
      rw [hr] at q
      intro v H' ex dat nw
      refine q H' ex.gr (r1.ds.grow0 ex) v (by simpa [esc, esc1] using dat.to2) (fun _ il => ?_)
      obtain ⟨p, e1, e2, e3⟩ := nw il
      exact ⟨p, e1, g1.noneB r1 e2, by simpa [esc1] using e3⟩
    | er e =>
      rw [hr] at q
      intro C H' hC ex
      exact ⟨e, C, hC, rfl, rfl, q H' ex.gr (r1.ds.grow0 ex)⟩
    | bad => rw [hr] at q; exact q
  · rw [har ds hn] at q
    exact q.elim
/-- f() -/
theorem d_c0 {x : Str} (G : Good c F X W) (hg : c.G.lookup x = some .pu) (gl : Gl X x) (hd : (x == ("__debug__" : Str)) = false) : PE X (.Call (.Name x p) [] [] pos) (tD F X.K W (.c0 x)) := by
  obtain ⟨g, k, f, fd, ps, n, hF, ok, rm, hm, kp, bi, hl, har⟩ := G.pu x hg
  refine PE.imp (pe_call0 ok rm gl hm kp bi .nil passL hd) fun σ H Q ⟨Φ, ρ, δ, r, q⟩ => ?_
  simp only [ev, hF] at q
  by_cases hn : ([] : List D).length = n
  · refine ⟨hn, [], AvX Φ σ ρ [], r.avLst _, DatL.nil, ?_⟩
    cases hr : g [] with
    | ok d =>
      rw [hr] at q
      intro v H' ex dat
      exact q H' ex.gr (r.ds.grow0 ex) v (by simpa [esc, esc1] using dat.to2) (fun z => nomatch z)
    | er e => rw [hr] at q; exact q.elim
    | bad => rw [hr] at q; exact q
  · rw [har [] hn] at q
    exact q.elim
/-- f(draws, e, ..) -/
theorem d_dc {x y : Str} {i : Nat} {py : Pos} {as : List Expr} {es : Es} (G : Good c F X W) (hg : c.G.lookup x = some .dw) (gl : Gl X x) (hd : (x == ("__debug__" : Str)) = false)
    (hN : X.N[i]? = some y) (hv : Vis X.env.scope y) (hy : (y == ("__debug__" : Str)) = false) (hcd : (y == ("__classdict__" : Str)) = false) (h : PA X as (tDs F X.K W es)) (ns : NoStar X as) :
    PE X (.Call (.Name x p) (.Name y py :: as) [] pos) (tD F X.K W (.dc x i es)) := by
  obtain ⟨g, k, f, fd, ps, n, hF, ok, rm, hm, kp, bi, hl, har⟩ := G.dw x hg
  have n1 : starEach (.Name y py :: as) X.env = (false, eval (.Name y py) X.env) :: starEach as X.env := rfl
  refine PE.imp (pe_callS ok rm gl hm kp bi (fun σ => passAt G.tk σ) (pa_cons (pe_var hN hv hy hcd) h n1) hd n1 (noStar_any ns)) fun σ H Q ⟨Φ, ρ, δ, r, q⟩ => ?_
  simp only [ev] at q
  cases hi : ρ[i]? with
  | none => rw [hi] at q; exact q.elim
  | some s =>
    rw [hi] at q
    cases s with
    | dr =>
      obtain ⟨dp, dq, e1, e2⟩ := r.dr i hi
      refine ⟨_, e2, PostG.binds r q fun vs H1 ds δ1 r1 g1 q1 q => ?_⟩
      simp only [hF] at q
      have hds := r1.ds
      unfold DsOk at hds
      rw [e1] at hds
      cases δ1 with
      | none => exact q.elim
      | some nn =>
        obtain ⟨ns', m⟩ := nn
        simp only at hds q
        by_cases hn : ds.length = n
        · refine ⟨by rw [List.length_cons, dc_len q1, hn], vs, ds, AvX Φ σ ρ (escs es), dp, dq, ns', m, rfl, r1.avLst _, q1.dat, hds.1, hds.2.1, hds.2.2.1, .inl hds.2.2.2.1, .inl hds.2.2.2.2, ?_⟩
          cases hr : g ds (ns', m) with
          | ok dd =>
            obtain ⟨d, ns2, m2⟩ := dd
            rw [hr] at q
            intro v H' st h1 h2 dat
            refine q H' (fun a o e z => st a o e (fun w => z ⟨dp, dq, e1, .inl w⟩) (fun w => z ⟨dp, dq, e1, .inr w⟩)) ?_ v (by simpa [esc, esc1] using dat.to2) (fun z => nomatch z)
            unfold DsOk
            rw [e1]
            exact ⟨h1, h2, hds.2.2⟩
          | er e => rw [hr] at q; exact q.elim
          | bad => rw [hr] at q; exact q
        · rw [har ds _ hn] at q
          exact q.elim
    | _ => exact q.elim

/-! ### built-ins -/
theorem arg1 {K : PySem.W.Frag} {Φ : Fm} {σ : L2.St} {H : Hp} {ρ : Env} {vs : List V} {ds : List D} (h : ArgL K Φ σ H ρ (.cons e .nil) vs ds) : ∃ v d, vs = [v] ∧ ds = [d] ∧ Dat2 K H (AvX Φ σ ρ (esc e)) (AvX Φ σ ρ (esc1 e)) v d := by
  cases vs with
  | nil => cases ds <;> simp [ArgL] at h
  | cons v vs =>
    cases ds with
    | nil => simp [ArgL] at h
    | cons d ds =>
      simp only [ArgL] at h
      cases vs with
      | nil =>
        cases ds with
        | nil => exact ⟨v, d, rfl, rfl, h.1⟩
        | cons _ _ => simp [ArgL] at h
      | cons _ _ => cases ds <;> simp [ArgL] at h
theorem arg2 {K : PySem.W.Frag} {Φ : Fm} {σ : L2.St} {H : Hp} {ρ : Env} {e2 : E} {vs : List V} {ds : List D} (h : ArgL K Φ σ H ρ (.cons e (.cons e2 .nil)) vs ds) : ∃ v d v2 d2, vs = [v, v2] ∧ ds = [d, d2] ∧ Dat2 K H (AvX Φ σ ρ (esc e)) (AvX Φ σ ρ (esc1 e)) v d ∧ Dat2 K H (AvX Φ σ ρ (esc e2)) (AvX Φ σ ρ (esc1 e2)) v2 d2 := by
  cases vs with
  | nil => cases ds <;> simp [ArgL] at h
  | cons v vs =>
    cases ds with
    | nil => simp [ArgL] at h
    | cons d ds =>
      simp only [ArgL] at h
      obtain ⟨v2, d2, rfl, rfl, h2⟩ := arg1 h.2
      exact ⟨v, d, v2, d2, rfl, rfl, h.1, h2⟩
theorem asInts_len : ∀ {ds : List D} {is : List Int}, asInts ds = some is → ds.length = is.length
  | [], is, h => by simp [asInts] at h; subst h; rfl
  | d :: ds, is, h => by
    cases d <;> simp [asInts] at h
    cases e : asInts ds with
    | none => rw [e] at h; cases h
    | some js =>
      rw [e] at h
      simp at h
      subst h
      simp [asInts_len e]
theorem maxI_ge : ∀ (is : List Int) (m : Int), m ≤ maxI m is ∧ (∀ y ∈ is, y ≤ maxI m is) ∧ (maxI m is = m ∨ maxI m is ∈ is)
  | [], m => by simp [maxI]
  | x :: is, m => by
    obtain ⟨h1, h2, h3⟩ := maxI_ge is (if m < x then x else m)
    simp only [maxI]
    refine ⟨?_, fun y hy => ?_, ?_⟩
    · split at h1 <;> rename_i hc
      · simp only [hc, if_true] at h1 ⊢; omega
      · simp only [hc, if_false] at h1 ⊢; exact h1
    · rcases List.mem_cons.mp hy with rfl | hy
      · split at h1 <;> rename_i hc
        · simp only [hc, if_true] at h1 ⊢; exact h1
        · simp only [hc, if_false] at h1 ⊢; omega
      · exact h2 y hy
    · rcases h3 with h3 | h3
      · split at h3 <;> rename_i hc
        · simp only [hc, if_true] at h3 ⊢; rw [h3]; right; simp
        · simp only [hc, if_false] at h3 ⊢; left; exact h3
      · right; exact List.mem_cons_of_mem _ h3
theorem minI_le : ∀ (is : List Int) (m : Int), minI m is ≤ m ∧ (∀ y ∈ is, minI m is ≤ y) ∧ (minI m is = m ∨ minI m is ∈ is)
  | [], m => by simp [minI]
  | x :: is, m => by
    obtain ⟨h1, h2, h3⟩ := minI_le is (if x < m then x else m)
    simp only [minI]
    refine ⟨?_, fun y hy => ?_, ?_⟩
    · split at h1 <;> rename_i hc
      · simp only [hc, if_true] at h1 ⊢; omega
      · simp only [hc, if_false] at h1 ⊢; exact h1
    · rcases List.mem_cons.mp hy with rfl | hy
      · split at h1 <;> rename_i hc
        · simp only [hc, if_true] at h1 ⊢; exact h1
        · simp only [hc, if_false] at h1 ⊢; omega
      · exact h2 y hy
    · rcases h3 with h3 | h3
      · split at h3 <;> rename_i hc
        · simp only [hc, if_true] at h3 ⊢; rw [h3]; right; simp
        · simp only [hc, if_false] at h3 ⊢; left; exact h3
      · right; exact List.mem_cons_of_mem _ h3
theorem max_eq {m i : Int} {is : List Int} (h1 : m ∈ i :: is) (h2 : ∀ y ∈ i :: is, y ≤ m) : m = maxI i is := by
  obtain ⟨g1, g2, g3⟩ := maxI_ge is i
  have h3 : maxI i is ∈ i :: is := by rcases g3 with g | g; rw [g]; simp; exact List.mem_cons_of_mem _ g
  have := h2 _ h3
  rcases List.mem_cons.mp h1 with rfl | h1
  · omega
  · have := g2 m h1; omega
theorem min_eq {m i : Int} {is : List Int} (h1 : m ∈ i :: is) (h2 : ∀ y ∈ i :: is, m ≤ y) : m = minI i is := by
  obtain ⟨g1, g2, g3⟩ := minI_le is i
  have h3 : minI i is ∈ i :: is := by rcases g3 with g | g; rw [g]; simp; exact List.mem_cons_of_mem _ g
  have := h2 _ h3
  rcases List.mem_cons.mp h1 with rfl | h1
  · omega
  · have := g2 m h1; omega
theorem boot_sorted : bootBuiltins ("sorted" : Str) = some (.builtin "sorted") := by kernel_rfl
theorem boot_str : bootBuiltins ("str" : Str) = some (.type "str") := by kernel_rfl
theorem boot_int : bootBuiltins ("int" : Str) = some (.type "int") := by kernel_rfl
theorem ints_dat {K : PySem.W.Frag} {H : Hp} {A : Addr → Prop} : ∀ (l : List Int), DatL K H A (l.map V.int) (l.map PyData.int)
  | [] => trivial
  | x :: l => ⟨by simp [Dat], ints_dat l⟩
/-- a tuple's items are told once -/
def Uni (K : PySem.W.Frag) (H : Hp) : Prop := ∀ a xs ys, SqT K H a xs → SqT K H a ys → xs = ys
theorem CallR.uni {X : Cx} {f : Value} {r : List V → Hp → VK → Prop} (h : CallR X f r) : CallR X f (fun vs H Q => Uni X.K H → r vs H Q) := fun pins s σ H vs us Q I rr q => h pins s σ H vs us Q I rr (q fun a xs ys h1 h2 => I.tuple_inj h1 h2)
open Classical in
/-- the ints of a tuple -/
noncomputable def keyOn (K : PySem.W.Frag) (H : Hp) (v : V) : List Int := if h : ∃ ns : List Int, ∃ b, v = .ref b ∧ SqT K H b (ns.map V.int) then h.choose else []
theorem int_inj : ∀ {ns ms : List Int}, ns.map V.int = ms.map V.int → ns = ms
  | [], [], _ => rfl
  | [], _ :: _, h => by simp at h
  | _ :: _, [], h => by simp at h
  | n :: ns, m :: ms, h => by
    simp only [List.map_cons, List.cons.injEq, V.int.injEq] at h
    rw [h.1, int_inj h.2]
theorem keyOn_eq {K : PySem.W.Frag} {H : Hp} {b : Addr} {ns : List Int} (un : Uni K H) (h : SqT K H b (ns.map V.int)) : keyOn K H (.ref b) = ns := by
  have hx : ∃ ns : List Int, ∃ b', V.ref b = .ref b' ∧ SqT K H b' (ns.map V.int) := ⟨ns, b, rfl, h⟩
  unfold keyOn
  rw [dif_pos hx]
  obtain ⟨b', e, h'⟩ := hx.choose_spec
  injection e with e; subst e
  exact int_inj (un b _ _ h' h)
theorem asInts_eq : ∀ {ds : List D} {ns : List Int}, asInts ds = some ns → ds = ns.map .int
  | [], ns, h => by simp only [asInts, Option.some.injEq] at h; subst h; rfl
  | d :: ds, ns, h => by
    cases d with
    | int i =>
      simp only [asInts] at h
      cases h2 : asInts ds with
      | none => rw [h2] at h; cases h
      | some is =>
        rw [h2] at h
        simp only [Option.some.injEq] at h
        subst h
        rw [asInts_eq h2]; rfl
    | _ => simp [asInts] at h
theorem keyOn_list {K : PySem.W.Frag} {H : Hp} {A : Addr → Prop} (un : Uni K H) : ∀ {ds : List D} {ts : List (List Int)} {xs : List V}, asTups ds = some ts → DatL K H A xs ds → (∀ x ∈ xs, ∃ b, x = .ref b ∧ SqT K H b ((keyOn K H x).map V.int)) ∧ xs.map (keyOn K H) = ts ∧ ∀ x ∈ xs, Dat K H A x (tupD (keyOn K H x))
  | [], ts, [], h, _ => by
    simp only [asTups, Option.some.injEq] at h
    subst h
    exact ⟨by simp, rfl, by simp⟩
  | [], _, _ :: _, _, q => by simp [DatL] at q
  | _ :: _, _, [], _, q => by simp [DatL] at q
  | d :: ds, ts, x :: xs, h, q => by
    simp only [asTups] at h
    simp only [DatL] at q
    cases h1 : asTup1 d with
    | none => rw [h1] at h; cases h
    | some t =>
      cases h2 : asTups ds with
      | none => rw [h1, h2] at h; cases h
      | some ts' =>
        rw [h1, h2] at h
        simp only [Option.some.injEq] at h
        subst h
        obtain ⟨k1, k2, k3⟩ := keyOn_list un h2 q.2
        cases d with
        | tuple es =>
          simp only [asTup1] at h1
          have q0 := q.1
          have q1 := q.1
          simp only [Dat] at q1
          obtain ⟨a, ys, rfl, e1, l1⟩ := q1
          have hy := l1.ints h1
          subst hy
          have hs := ktSq e1
          have ek := keyOn_eq un hs
          refine ⟨fun y hy => ?_, by rw [List.map_cons, ek, k2], fun y hy => ?_⟩
          · rcases List.mem_cons.mp hy with rfl | hy
            · exact ⟨a, rfl, by rw [ek]; exact hs⟩
            · exact k1 y hy
          · rcases List.mem_cons.mp hy with rfl | hy
            · rw [ek, tupD, ← asInts_eq h1]; exact q0
            · exact k3 y hy
        | _ => simp [asTup1] at h1
theorem solid_tup {t : List Int} : solid (tupD t) = true := by
  show solids (t.map .int) = true
  induction t with
  | nil => rfl
  | cons x t ih => simpa [solids, solid] using ih
theorem tups_dat {K : PySem.W.Frag} {Φ : Fm} {σ : L2.St} {H : Hp} {ρ : Env} {δ : DS} {A : Addr → Prop} {Y : List Nat} {xs zs : List V} {ts : List (List Int)} (r : Rel K Φ σ H ρ δ) (hk2 : xs.map (keyOn K H) = ts) (hk3 : ∀ x ∈ xs, Dat K H A x (tupD (keyOn K H x))) (h1 : zs.Perm xs) (h2 : zs.Pairwise (fun x y => lexL (keyOn K H y) (keyOn K H x) = false)) : DatL K H (AvX Φ σ ρ Y) zs ((tsort ts).map tupD) := by
  have e : zs.map (keyOn K H) = tsort ts := by
    refine tsort_unique ((h1.map _).trans ?_) (List.pairwise_map.mpr h2) (tsort_sorted ts)
    rw [hk2]
    exact (tsort_perm ts).symm
  rw [← e, List.map_map]
  have hz : ∀ x ∈ zs, Dat K H (AvX Φ σ ρ Y) x (tupD (keyOn K H x)) := fun x hx => Dat.mono (fun a o e _ n => ⟨e, fun z => n z.av⟩) _ (solid_av r _ solid_tup (hk3 x (h1.mem_iff.mp hx)))
  clear h1 h2 e
  induction zs with
  | nil => exact DatL.nil
  | cons z zs ih => exact DatL.cons (hz z (by simp)) (ih fun x hx => hz x (by simp [hx]))
theorem DatP.keysL {K : PySem.W.Frag} {H : Hp} {A : Addr → Prop} : ∀ {xs : List KEnt} (kvs : List (D × D)), DatP K H A xs kvs → DatL K H A (xs.map fun x => V.ref x.2.1) (kvs.map (·.1))
  | [], [], _ => DatL.nil
  | [], _ :: _, q => by simp [DatP] at q
  | _ :: _, [], q => by simp [DatP] at q
  | x :: xs, (k, d) :: kvs, q => by
    simp only [DatP] at q
    exact DatL.cons q.2.2.1 (DatP.keysL kvs q.2.2.2.2)
/-- one built-in of one argument -/
theorem d_bu1 {x : Str} {u : BU} (G : Good c F X W) (hx : bu1 x = some u) (hg : c.G.lookup x = none) (gl : Gl X x) (ha : PE X a (tD F X.K W ea)) (ns : starEach [a] X.env = [(false, eval a X.env)]) : PE X (.Call (.Name x p) [a] [] pos) (tD F X.K W (.bu u (.cons ea .nil))) := by
  have hA : PA X [a] (tDs F X.K W (.cons ea .nil)) := a_cons ha a_nil ns
  have hp : (backTo pos (starEach [] X.env)).any (·.1) = false := by simp [starEach, backTo]
  have bl : x ∈ blts → X.mg x = none := fun h => G.bl x h hg
  have run : ∀ {rr : List V → Hp → VK → Prop}, (∀ {Φ : Fm} {σ : L2.St} {H H1 : Hp} {ρ : Env} {δ δ1 : DS} {Q : VK} {v : V} {d d' : D}, Rel X.K Φ σ H ρ δ → Gr Φ H H1 → Rel X.K Φ σ H1 ρ δ1 → Dat2 X.K H1 (AvX Φ σ ρ (esc ea)) (AvX Φ σ ρ (esc1 ea)) v d → buD u [d] = some d' → (∀ H', Gr Φ H1 H' → DsOk Φ H' δ1 → PE1 X.K Φ σ H ρ (.bu u (.cons ea .nil)) Q d' δ1 H') → rr [v] H1 Q) →
      ∀ σ H Q, tD F X.K W (.bu u (.cons ea .nil)) σ H Q → tCB rr (tDs F X.K W (.cons ea .nil)) σ H Q := fun {rr} k σ H Q ⟨Φ, ρ, δ, r, q⟩ => by
    simp only [ev] at q
    refine PostG.binds r q fun vs H1 ds δ1 r1 g1 q1 q => ?_
    obtain ⟨v, d, rfl, rfl, q2⟩ := arg1 q1
    cases e : buD u [d] with
    | none => rw [e] at q; exact q.elim
    | some d' =>
      rw [e] at q
      exact k r g1 r1 q2 e q
  unfold bu1 at hx
  split at hx
  · injection hx with hx; subst hx; rename_i hx; subst hx
    refine PE.imp (pe_callB (CallR.or call_len_seq (CallR.or call_len_str call_lenN)) gl (bl (by decide +kernel)) boot_len hA (by decide +kernel) (by decide +kernel) ns hp) (run fun {Φ σ H H1 ρ δ δ1 Q v d d'} r g1 r1 q e fin => ?_)
    cases d with
    | list xs =>
      simp only [buD, Option.some.injEq] at e; subst e
      simp only [Dat2] at q
      obtain ⟨pp, ys, rfl, e1, n1, l1⟩ := q
      exact .inl ⟨pp, ys, rfl, .inl (SqL.of e1), by rw [l1.length]; exact PE1.scal rfl (fin H1 Gr.refl r1.ds) (by simp [Dat])⟩
    | tuple xs =>
      simp only [buD, Option.some.injEq] at e; subst e
      simp only [Dat2] at q
      obtain ⟨pp, ys, rfl, e1, l1⟩ := q
      exact .inl ⟨pp, ys, rfl, .inr (ktSq e1), by rw [l1.length]; exact PE1.scal rfl (fin H1 Gr.refl r1.ds) (by simp [Dat])⟩
    | str z =>
      simp only [buD] at e
      split at e
      · rename_i hz
        injection e with e; subst e
        simp only [Dat2, Dat] at q
        subst q
        exact .inr <| .inl ⟨z, rfl, Nat.le_trans hz (by rw [sizeLine_eq]; decide), PE1.scal rfl (fin H1 Gr.refl r1.ds) (by simp [Dat])⟩
      · cases e
    | dict kvs =>
      simp only [buD, Option.some.injEq] at e; subst e
      simp only [Dat2] at q
      obtain ⟨pp, o, ys, rfl, e1, n1, g, l1⟩ := q
      exact .inr <| .inr ⟨pp, ys, rfl, ⟨o, e1, g, l1.keys8⟩, by rw [l1.length]; exact PE1.scal rfl (fin H1 Gr.refl r1.ds) (by simp [Dat])⟩
    | _ => simp [buD] at e
  split at hx
  · injection hx with hx; subst hx; rename_i hx; subst hx
    refine PE.imp (pe_callTy call_list_of gl (bl (by decide +kernel)) PyProof.Rows.boot_list hA (by decide +kernel) (by decide +kernel) ns hp) (run fun {Φ σ H H1 ρ δ δ1 Q v d d'} r g1 r1 q e fin => ?_)
    cases d with
    | list xs =>
      simp only [buD, Option.some.injEq] at e; subst e
      simp only [Dat2] at q
      obtain ⟨pp, ys, rfl, e1, n1, l1⟩ := q
      exact ⟨pp, ys, rfl, .inl (SqL.of e1), fun l hl => PE1.newL r g1 r1 fin (AvX.sub (fun i hi => by simpa [esc1, escs1] using hi) l1) hl⟩
    | tuple xs =>
      simp only [buD, Option.some.injEq] at e; subst e
      simp only [Dat2] at q
      obtain ⟨pp, ys, rfl, e1, l1⟩ := q
      exact ⟨pp, ys, rfl, .inr (ktSq e1), fun l hl => PE1.newL r g1 r1 fin (AvX.sub (fun i hi => by simpa [esc1, escs1] using hi) l1) hl⟩
    | _ => simp [buD] at e
  split at hx
  · injection hx with hx; subst hx; rename_i hx; subst hx
    refine PE.imp (pe_callTy call_tuple_of gl (bl (by decide +kernel)) PyProof.Rows.boot_tuple hA (by decide +kernel) (by decide +kernel) ns hp) (run fun {Φ σ H H1 ρ δ δ1 Q v d d'} r g1 r1 q e fin => ?_)
    cases d with
    | list xs =>
      simp only [buD, Option.some.injEq] at e; subst e
      simp only [Dat2] at q
      obtain ⟨pp, ys, rfl, e1, n1, l1⟩ := q
      exact ⟨pp, ys, rfl, .inl ⟨SqL.of e1, fun l hl => PE1.newT r1 fin (AvX.sub (fun i hi => by simpa [esc1, escs1] using hi) l1) hl⟩⟩
    | tuple xs =>
      simp only [buD, Option.some.injEq] at e; subst e
      simp only [Dat2] at q
      obtain ⟨pp, ys, rfl, e1, l1⟩ := q
      exact ⟨pp, ys, rfl, .inr ⟨ktSq e1, PE1.oldT r1 fin e1 (AvX.sub (fun i hi => by simpa [esc1, escs1] using hi) l1)⟩⟩
    | _ => simp [buD] at e
  split at hx
  · injection hx with hx; subst hx; rename_i hx; subst hx
    refine PE.imp (pe_callB (cr_max G.calm) gl (bl (by decide +kernel)) PyProof.Rows.boot_max hA (by decide +kernel) (by decide +kernel) ns hp) (run fun {Φ σ H H1 ρ δ δ1 Q v d d'} r g1 r1 q e fin => ?_)
    cases d with
    | list xs =>
      simp only [buD] at e
      cases hi : asInts xs with
      | none => rw [hi] at e; cases e
      | some is =>
        rw [hi] at e
        cases is with
        | nil => cases e
        | cons i is =>
          simp only [Option.some.injEq] at e; subst e
          simp only [Dat2] at q
          obtain ⟨pp, ys, rfl, e1, n1, l1⟩ := q
          have hy := l1.ints hi
          subst hy
          refine ⟨pp, i :: is, rfl, SqL.of e1, by simp, fun m h1 h2 => ?_⟩
          rw [max_eq h1 h2]
          exact PE1.scal rfl (fin H1 Gr.refl r1.ds) (by simp [Dat])
    | _ => simp [buD] at e
  split at hx
  · injection hx with hx; subst hx; rename_i hx; subst hx
    refine PE.imp (pe_callB (cr_min G.calm) gl (bl (by decide +kernel)) PyProof.Rows.boot_min hA (by decide +kernel) (by decide +kernel) ns hp) (run fun {Φ σ H H1 ρ δ δ1 Q v d d'} r g1 r1 q e fin => ?_)
    cases d with
    | list xs =>
      simp only [buD] at e
      cases hi : asInts xs with
      | none => rw [hi] at e; cases e
      | some is =>
        rw [hi] at e
        cases is with
        | nil => cases e
        | cons i is =>
          simp only [Option.some.injEq] at e; subst e
          simp only [Dat2] at q
          obtain ⟨pp, ys, rfl, e1, n1, l1⟩ := q
          have hy := l1.ints hi
          subst hy
          refine ⟨pp, i :: is, rfl, SqL.of e1, by simp, fun m h1 h2 => ?_⟩
          rw [min_eq h1 h2]
          exact PE1.scal rfl (fin H1 Gr.refl r1.ds) (by simp [Dat])
    | _ => simp [buD] at e
  split at hx
  · injection hx with hx; subst hx; rename_i hx; subst hx
    refine PE.imp (pe_callB (cr_sum G.calm) gl (bl (by decide +kernel)) PyProof.Rows.boot_sum hA (by decide +kernel) (by decide +kernel) ns hp) (run fun {Φ σ H H1 ρ δ δ1 Q v d d'} r g1 r1 q e fin => ?_)
    cases d with
    | list xs =>
      simp only [buD] at e
      cases hi : asInts xs with
      | none => rw [hi] at e; cases e
      | some is =>
        rw [hi] at e
        simp only [Option.map_some, Option.some.injEq] at e; subst e
        simp only [Dat2] at q
        obtain ⟨pp, ys, rfl, e1, n1, l1⟩ := q
        have hy := l1.ints hi
        subst hy
        exact ⟨pp, is, rfl, SqL.of e1, PE1.scal rfl (fin H1 Gr.refl r1.ds) (by simp [Dat])⟩
    | _ => simp [buD] at e
  split at hx
  · injection hx with hx; subst hx; rename_i hx; subst hx
    refine PE.imp (pe_callB (cr_all G.calm) gl (bl (by decide +kernel)) PyProof.Rows.boot_all hA (by decide +kernel) (by decide +kernel) ns hp) (run fun {Φ σ H H1 ρ δ δ1 Q v d d'} r g1 r1 q e fin => ?_)
    cases d with
    | list xs =>
      simp only [buD] at e
      cases hi : asBools xs with
      | none => rw [hi] at e; cases e
      | some is =>
        rw [hi] at e
        simp only [Option.map_some, Option.some.injEq] at e; subst e
        simp only [Dat2] at q
        obtain ⟨pp, ys, rfl, e1, n1, l1⟩ := q
        have hy := l1.bools hi
        subst hy
        exact ⟨pp, is, rfl, SqL.of e1, PE1.scal rfl (fin H1 Gr.refl r1.ds) (by simp [Dat])⟩
    | _ => simp [buD] at e
  split at hx
  · injection hx with hx; subst hx; rename_i hx; subst hx
    refine PE.imp (pe_callB (cr_any G.calm) gl (bl (by decide +kernel)) PyProof.Rows.boot_any hA (by decide +kernel) (by decide +kernel) ns hp) (run fun {Φ σ H H1 ρ δ δ1 Q v d d'} r g1 r1 q e fin => ?_)
    cases d with
    | list xs =>
      simp only [buD] at e
      cases hi : asBools xs with
      | none => rw [hi] at e; cases e
      | some is =>
        rw [hi] at e
        simp only [Option.map_some, Option.some.injEq] at e; subst e
        simp only [Dat2] at q
        obtain ⟨pp, ys, rfl, e1, n1, l1⟩ := q
        have hy := l1.bools hi
        subst hy
        exact ⟨pp, is, rfl, SqL.of e1, PE1.scal rfl (fin H1 Gr.refl r1.ds) (by simp [Dat])⟩
    | _ => simp [buD] at e
  split at hx
  · injection hx with hx; subst hx; rename_i hx; subst hx
    refine PE.imp (pe_callB (CallR.or (CallR.or cr_sortedI cr_sortTup) (CallR.or (CallR.uni (cr_sortLT G.un)) (CallR.uni (cr_sortDN G.calm G.un)))) gl (bl (by decide +kernel)) boot_sorted hA (by decide +kernel) (by decide +kernel) ns hp) (run fun {Φ σ H H1 ρ δ δ1 Q v d d'} r g1 r1 q e fin => ?_)
    cases d with
    | list xs =>
      simp only [buD] at e
      cases hi : asInts xs with
      | none =>
        rw [hi] at e
        cases ht : asTups xs with
        | none => rw [ht] at e; cases e
        | some ts =>
          rw [ht] at e
          simp only [Option.map_some, Option.some.injEq] at e; subst e
          simp only [Dat2] at q
          obtain ⟨pp, ys, rfl, e1, n1, l1⟩ := q
          refine .inr (.inl fun un => ?_)
          obtain ⟨hk1, hk2, hk3⟩ := keyOn_list un ht l1
          refine ⟨pp, ys, keyOn X.K H1, rfl, SqL.of e1, hk1, fun zs l h1 h2 hl => ?_⟩
          exact PE1.newL r g1 r1 fin (tups_dat r1 hk2 hk3 h1 h2) hl
      | some is =>
        rw [hi] at e
        simp only [Option.some.injEq] at e; subst e
        simp only [Dat2] at q
        obtain ⟨pp, ys, rfl, e1, n1, l1⟩ := q
        have hy := l1.ints hi
        subst hy
        refine .inl (.inl ⟨pp, is, rfl, SqL.of e1, fun ns' l h1 h2 hl => ?_⟩)
        rw [sorted_unique (h1.trans (isort_perm is).symm) h2 (isort_sorted is)]
        exact PE1.newL r g1 r1 fin (ints_dat _) hl
    | tuple xs =>
      simp only [buD] at e
      cases hi : asInts xs with
      | none => rw [hi] at e; cases e
      | some is =>
        rw [hi] at e
        simp only [Option.map_some, Option.some.injEq] at e; subst e
        simp only [Dat2] at q
        obtain ⟨pp, ys, rfl, e1, l1⟩ := q
        have hy := l1.ints hi
        subst hy
        refine .inl (.inr ⟨pp, is, rfl, ktSq e1, fun ns' l h1 h2 hl => ?_⟩)
        rw [sorted_unique (h1.trans (isort_perm is).symm) h2 (isort_sorted is)]
        exact PE1.newL r g1 r1 fin (ints_dat _) hl
    | dict kvs =>
      simp only [buD] at e
      cases ht : asTups (kvs.map (·.1)) with
      | none => rw [ht] at e; cases e
      | some ts =>
        rw [ht] at e
        simp only [Option.map_some, Option.some.injEq] at e; subst e
        simp only [Dat2] at q
        obtain ⟨pp, o, ys, rfl, e1, n1, gd, l1⟩ := q
        refine .inr (.inr fun un => ?_)
        obtain ⟨hk1, hk2, hk3⟩ := keyOn_list un ht (DatP.keysL kvs l1)
        refine ⟨pp, o, ys, keyOn X.K H1, rfl, e1, gd, fun x hx => ?_, fun zs l h1 h2 hl => ?_⟩
        · obtain ⟨b, eb, hb⟩ := hk1 (.ref x.2.1) (List.mem_map.mpr ⟨x, hx, rfl⟩)
          injection eb with eb; subst eb
          exact hb
        · exact PE1.newL r g1 r1 fin (tups_dat r1 hk2 hk3 h1 h2) hl
    | _ => simp [buD] at e
  split at hx
  · injection hx with hx; subst hx; rename_i hx; subst hx
    refine PE.imp (pe_callTy (CallR.or call_str_int SkE.call_str_str) gl (bl (by decide +kernel)) boot_str hA (by decide +kernel) (by decide +kernel) ns hp) (run fun {Φ σ H H1 ρ δ δ1 Q v d d'} r g1 r1 q e fin => ?_)
    cases d with
    | int i =>
      simp only [buD] at e
      split at e
      · rename_i hz
        injection e with e; subst e
        simp only [Dat2, Dat] at q
        subst q
        obtain ⟨n, rfl⟩ := Int.eq_ofNat_of_zero_le hz.1
        have hn : n < 10 := by omega
        have et : mkS [48 + ((n : Nat) : Int).toNat] = Str.ofString (toString ((n : Nat) : Int)) := TL.ext_tl (by rw [TL.tl_num, TL.numL_lt hn]; rfl)
        rw [et] at fin
        refine .inl ⟨(n : Int), rfl, ?_, PE1.scal rfl (fin H1 Gr.refl r1.ds) (by simp [Dat])⟩
        rcases n with _ | _ | _ | _ | _ | _ | _ | _ | _ | _ | n
        all_goals first | decide | omega
      · cases e
    | str z =>
      simp only [buD, Option.some.injEq] at e; subst e
      simp only [Dat2, Dat] at q
      subst q
      exact .inr ⟨z, rfl, PE1.scal rfl (fin H1 Gr.refl r1.ds) (by simp [Dat])⟩
    | _ => simp [buD] at e
  split at hx
  · injection hx with hx; subst hx; rename_i hx; subst hx
    refine PE.imp (pe_callTy call_int_str gl (bl (by decide +kernel)) boot_int hA (by decide +kernel) (by decide +kernel) ns hp) (run fun {Φ σ H H1 ρ δ δ1 Q v d d'} r g1 r1 q e fin => ?_)
    cases d with
    | str z =>
      simp only [buD] at e
      split at e
      · rename_i c hc
        split at e
        · rename_i hz
          injection e with e; subst e
          simp only [Dat2, Dat] at q
          subst q
          have hn : c - 48 < 10 := by omega
          have ez : z = Str.ofString (toString ((c - 48 : Nat) : Int)) := TL.ext_tl (by
            rw [TL.tl_num, TL.numL_lt hn]
            show z.cps.toList = _
            rw [hc]
            congr 1
            omega)
          refine ⟨z, ((c - 48 : Nat) : Int), rfl, ?_, ?_, PE1.scal rfl (fin H1 Gr.refl r1.ds) (by simp [Dat])⟩
          · rw [ez]
            exact TL.int_num (by rw [TL.numL_lt hn]; simp)
          · rw [TL.len_tl]
            show z.cps.toList.length ≤ 640
            rw [hc]
            simp
        · cases e
      · cases e
    | _ => simp [buD] at e
  · cases hx
theorem strs_dat {K : PySem.W.Frag} {H : Hp} {A : Addr → Prop} : ∀ (l : List Str), DatL K H A (l.map V.str) (l.map PyData.str)
  | [] => trivial
  | x :: l => ⟨by simp [Dat], strs_dat l⟩
/-- "..".join(e) -/
theorem d_join {s : Str} {j : Nat} {cp apos : Pos} (ha : PE X a (tD F X.K W ea)) (ns : starEach [a] X.env = [(false, eval a X.env)]) (hl : (apos.endLine == pos.line) = true) :
    PE X (.Call (.Attribute (.Constant (.str s) j cp) "join" apos) [a] [] pos) (tD F X.K W (.bu (.join s) (.cons ea .nil))) := by
  refine PE.imp (pe_join pe_str ha ns rfl hl) fun σ H Q ⟨Φ, ρ, δ, r, q⟩ => ⟨⟨s, rfl⟩, ?_⟩
  have e : ev F (.bu (.join s) (.cons ea .nil)) ρ δ = (ev F ea ρ δ).bind fun x δ => R.ofOpt δ (buD (.join s) [x]) := by
    simp only [ev, evs]
    cases ev F ea ρ δ <;> rfl
  rw [e] at q
  refine PostG.bind r q fun v H1 d δ1 r1 g1 q1 _ q => ?_
  cases d with
  | list xs =>
    simp only [buD] at q
    cases hi : asStrs xs with
    | none => rw [hi] at q; exact q.elim
    | some ys =>
      rw [hi] at q
      simp only at q
      by_cases hz : (ys.map (·.length)).sum + ys.length * s.length ≤ big
      · rw [if_pos hz, joinS_eq] at q
        simp only [Dat2] at q1
        obtain ⟨pp, zs, rfl, e1, n1, l1⟩ := q1
        have hy := l1.strs hi
        subst hy
        exact ⟨s, pp, ys, rfl, rfl, .inl (SqL.of e1), Nat.le_trans hz (by decide), PE1.scal rfl (q H1 Gr.refl r1.ds) (by simp [Dat])⟩
      · rw [if_neg hz] at q; exact q.elim
  | _ => exact q.elim
theorem atom_ev {ea : E} (h : atomE ea = true) (ρ : Env) (δ : DS) : (∃ d, ev F ea ρ δ = .ok d δ) ∨ ev F ea ρ δ = .bad := by
  cases ea with
  | k d => exact .inl ⟨d, rfl⟩
  | v i =>
    show (∃ d, R.ofOpt δ (look ρ i) = .ok d δ) ∨ R.ofOpt δ (look ρ i) = .bad
    cases look ρ i with
    | none => exact .inr rfl
    | some d => exact .inl ⟨d, rfl⟩
  | _ => cases h
/-- x.m(e), e a name or a constant -/
theorem d_m2 {i : Nat} {u : BU} {σ : L2.St} {H : Hp} {Q : VK} {K : PySem.W.Frag} {T : V → Hp → Prop} {rr : V → List V → Hp → VK → Prop} (hat : atomE ea = true) (h : tD F K W (.bu u (.cons (.v i) (.cons ea .nil))) σ H Q)
    (fin : ∀ (Φ : Fm) (ρ : Env) (δ : DS) (d d1 d' : D), buD u [d, d1] = some d' → (∀ (H1 : Hp) (v : V), Rel K Φ σ H1 ρ δ → Gr Φ H H1 → Dat2 K H1 (AvX Φ σ ρ [i]) (AvX Φ σ ρ []) v d → T v H1) ∧
      ∀ (H1 H2 : Hp) (v y : V), Rel K Φ σ H ρ δ → Gr Φ H H1 → Gr Φ H1 H2 → Rel K Φ σ H2 ρ δ → Dat2 K H2 (AvX Φ σ ρ [i]) (AvX Φ σ ρ []) v d → Dat2 K H2 (AvX Φ σ ρ (esc ea)) (AvX Φ σ ρ (esc1 ea)) y d1 → (∀ H', Gr Φ H2 H' → DsOk Φ H' δ → PE1 K Φ σ H ρ (.bu u (.cons (.v i) (.cons ea .nil))) Q d' δ H') → rr v [y] H2 Q) :
    tD F K W (.v i) σ H fun x H1 => T x H1 ∧ tD F K W ea σ H1 fun y H2 => rr x [y] H2 Q := by
  obtain ⟨Φ, ρ, δ, r, q⟩ := h
  simp only [ev, evs] at q
  cases hl : look ρ i with
  | none => rw [hl] at q; exact q.elim
  | some d =>
    rw [hl] at q
    rcases atom_ev (F := F) hat ρ δ with ⟨d1, e1⟩ | e1
    · have q0 := q
      simp only [R.ofOpt, R.bind_ok, e1] at q
      cases e : buD u [d, d1] with
      | none =>
        have q : PostG Φ σ H W (PE1 K Φ σ H ρ (.bu u (.cons (.v i) (.cons ea .nil))) Q) (R.ofOpt δ (buD u [d, d1])) := q
        rw [e] at q; exact q.elim
      | some d' =>
        have q : PostG Φ σ H W (PE1 K Φ σ H ρ (.bu u (.cons (.v i) (.cons ea .nil))) Q) (R.ofOpt δ (buD u [d, d1])) := q
        rw [e] at q
        obtain ⟨f1, f2⟩ := fin Φ ρ δ d d1 d' e
        refine ⟨Φ, ρ, δ, r, ?_⟩
        simp only [ev, hl]
        intro H1 g1 ds1 v dat _
        have r1 := r.grow g1 ds1
        refine ⟨f1 H1 v r1 g1 dat, Φ, ρ, δ, r1, ?_⟩
        rw [e1]
        intro H2 g2 ds2 y dat2 _
        have r2 := r1.grow g2 ds2
        exact f2 H1 H2 v y r g1 g2 r2 (g2.dat2 (r1.drA _) (r1.drA _) dat) dat2 (fun H' g' d' => q H' (g1.trans (g2.trans g')) d')
    · simp only [R.ofOpt, R.bind_ok, e1] at q
      exact q.elim
/-- x.split(e) -/
theorem d_split {i : Nat} {x : Str} {px apos : Pos} (hx : PE X (.Name x px) (tD F X.K W (.v i))) (hat : atomE ea = true) (ha : PE X a (tD F X.K W ea)) (ns : starEach [a] X.env = [(false, eval a X.env)]) (hl : (apos.endLine == pos.line) = true) :
    PE X (.Call (.Attribute (.Name x px) "split" apos) [a] [] pos) (tD F X.K W (.bu .split (.cons (.v i) (.cons ea .nil)))) := by
  refine PE.imp (pe_split hx ha ns rfl hl) fun σ H Q h => ?_
  refine d_m2 (T := fun x _ => ∃ a, x = .str a) (rr := fun x xs H Q => ∃ a b, x = .str a ∧ xs = [.str b] ∧ (b.length == 0) = false ∧ a.length + 2 ≤ sizeLine ∧ rNewStrs (Txt.split a b) H Q) hat h fun Φ ρ δ d d1 d' e => ?_
  cases d <;> cases d1 <;> simp only [buD] at e <;> first | cases e | skip
  rename_i z b
  split at e
  · rename_i hz
    rw [splitS_eq hz.1 hz.2.2] at e
    injection e with e; subst e
    refine ⟨fun H1 v _ _ q => ⟨z, by simpa [Dat2, Dat] using q⟩, fun H1 H2 v y r g1 g2 r2 q1 q2 fin => ?_⟩
    simp only [Dat2, Dat] at q1 q2
    subst q1; subst q2
    refine ⟨z, b, rfl, rfl, by simp; omega, ?_, fun p hp => ?_⟩
    · have := hz.2.1
      rw [sizeLine_eq]
      unfold big at this
      omega
    · exact PE1.newL r (g1.trans g2) r2 fin (strs_dat _) hp
  · cases e
theorem findIdx_spec {p : D → Bool} : ∀ {l : List D} {j : Nat}, l.findIdx? p = some j → (∃ z, l[j]? = some z ∧ p z = true) ∧ ∀ (m : Nat) (z : D), m < j → l[m]? = some z → p z = false := by
  intro l j h
  rw [List.findIdx?_eq_some_iff_getElem] at h
  obtain ⟨h1, h2, h3⟩ := h
  refine ⟨⟨l[j], List.getElem?_eq_getElem h1, h2⟩, fun m z hm hz => ?_⟩
  have := h3 m hm
  obtain ⟨hl, e⟩ := List.getElem?_eq_some_iff.mp hz
  rw [← e]
  simpa using this
theorem dat2_dp {K : PySem.W.Frag} {H : Hp} {A B : Addr → Prop} : ∀ {v : V} (d : D), SeqAt.shaped d = true → Dat2 K H A B v d → Dp K H v d
  | v, .list ds, h, q => by
    have c := SeqAt.canLay_of_shaped h
    simp only [PyData.canLay0] at c
    simp only [Dat2] at q
    obtain ⟨a, xs, rfl, e, n, l⟩ := q
    exact .lst (SqL.of e) (DatL.dp ds c l)
  | v, .tuple ds, h, q => by
    have c := SeqAt.canLay_of_shaped h
    simp only [PyData.canLay0] at c
    simp only [Dat2] at q
    obtain ⟨a, xs, rfl, e, l⟩ := q
    exact .tup (ktSq e) (DatL.dp ds c l)
  | v, .none, h, q => Dat.dps h (show Dat K H A v .none from q)
  | v, .bool b, h, q => Dat.dps h (show Dat K H A v (.bool b) from q)
  | v, .int i, h, q => Dat.dps h (show Dat K H A v (.int i) from q)
  | v, .str z, h, q => Dat.dps h (show Dat K H A v (.str z) from q)
  | v, .dict _, h, q => by
    have c := SeqAt.canLay_of_shaped h
    simp [PyData.canLay0] at c
/-- x.index(e) -/
theorem d_index {i : Nat} {x : Str} {px apos : Pos} (hu : X.A.units + 65 < cLine) (hx : PE X (.Name x px) (tD F X.K W (.v i))) (hat : atomE ea = true) (ha : PE X a (tD F X.K W ea)) (ns : starEach [a] X.env = [(false, eval a X.env)]) (hl : (apos.endLine == pos.line) = true) :
    PE X (.Call (.Attribute (.Name x px) "index" apos) [a] [] pos) (tD F X.K W (.bu .index (.cons (.v i) (.cons ea .nil)))) := by
  refine PE.imp (pe_bm PySem.F.plainAttrs_list PySem.F.slot_list_index PySem.F.type_list_index (mt_indexD hu) hx (pa_cons ha pa_nil ns) rfl (by rw [ns]; rfl) hl ns rfl) fun σ H Q h => ?_
  refine d_m2 (T := tyV X.K "list") (rr := rIndexD X.K) hat h fun Φ ρ δ d d1 d' e => ?_
  cases d with
  | list xs =>
    simp only [buD] at e
    split at e
    · rename_i hsh
      rw [Bool.and_eq_true] at hsh
      cases hf : xs.findIdx? (fun z => PyData.eqv z d1) with
      | none => rw [hf] at e; cases e
      | some j =>
        rw [hf] at e
        injection e with e; subst e
        obtain ⟨⟨z, hz1, hz2⟩, hz3⟩ := findIdx_spec hf
        refine ⟨fun H1 v _ _ q => ?_, fun H1 H2 v y r g1 g2 r2 q1 q2 fin => ?_⟩
        · simp only [Dat2] at q
          obtain ⟨p, ys, rfl, e1, _⟩ := q
          exact .inl ⟨rfl, ys, SqL.of e1⟩
        · simp only [Dat2] at q1
          obtain ⟨p, ys, rfl, e1, n1, l1⟩ := q1
          exact ⟨p, y, d1, xs, j, z, rfl, rfl, .lst (SqL.of e1) (DatL.dp xs (by have := SeqAt.canLay_of_shaped hsh.1; simpa [PyData.canLay0] using this) l1), dat2_dp d1 hsh.2 q2, hsh.1, hsh.2, hz1, hz2, fun m z' hm hz' => hz3 m z' hm hz', PE1.scal rfl (fin H2 Gr.refl r2.ds) (by simp [Dat])⟩
    · cases e
  | _ => simp [buD] at e
/-- sorted(set(e)) -/
theorem d_sset {p1 pos1 : Pos} (G : Good c F X W) (hg : c.G.lookup ("sorted" : Str) = none) (gl : Gl X "sorted") (hr : c.G.lookup ("set" : Str) = none) (gr : Gl X "set") (ha : PE X a (tD F X.K W ea)) (ns : starEach [a] X.env = [(false, eval a X.env)]) :
    PE X (.Call (.Name "sorted" p) [.Call (.Name "set" p1) [a] [] pos1] [] pos) (tD F X.K W (.bu .sset (.cons ea .nil))) := by
  have hA : PA X [a] (tDs F X.K W (.cons ea .nil)) := a_cons ha a_nil ns
  have hp : (backTo pos1 (starEach [] X.env)).any (·.1) = false := by simp [starEach, backTo]
  refine PE.imp (pe_callB (cr_sortedSet G.calm) gl (G.bl _ (by decide +kernel) hg) boot_sorted (pa_cons (pe_callTy (cr_setTup G.calm) gr (G.bl _ (by decide +kernel) hr) PyProof.Rows.boot_set hA (by decide +kernel) (by decide +kernel) ns hp) pa_nil rfl) (by decide +kernel) (by decide +kernel) rfl rfl) fun σ H Q ⟨Φ, ρ, δ, r, q⟩ => ?_
  simp only [ev] at q
  refine PostG.binds r q fun vs H1 ds δ1 r1 g1 q1 q => ?_
  obtain ⟨v, d, rfl, rfl, q2⟩ := arg1 q1
  cases d with
  | tuple xs =>
    simp only [buD] at q
    cases hi : asInts xs with
    | none => rw [hi] at q; exact q.elim
    | some is =>
      rw [hi] at q
      simp only at q
      by_cases hlt : is.length < 60
      · rw [if_pos hlt] at q
        simp only [Dat2] at q2
        obtain ⟨pp, ys, rfl, e1, l1⟩ := q2
        have hy := l1.ints hi
        subst hy
        refine ⟨pp, is, rfl, ktSq e1, hlt, fun l c hc hl => ?_⟩
        have r2 := r1.grow (Gr.new (o := SetO X.w l (fun j => decide (j ∈ is)) c) hl) (r1.ds.new hl)
        refine ⟨l, _, c, rfl, upd_same, by omega, fun ns' p2 h1 h2 h3 hp2 => ?_⟩
        rw [strict_unique (fun z => ((h2 z).trans decide_eq_true_iff).trans (usort_mem is z).symm) h1 (usort_sorted is)]
        exact PE1.newL r (g1.trans (Gr.new hl)) r2 (fun H' g' d' => q H' ((Gr.new hl).trans g') d') (ints_dat _) hp2
      · rw [if_neg hlt] at q; exact q.elim
  | _ => exact q.elim
theorem d_max2 (G : Good c F X W) (hg : c.G.lookup ("max" : Str) = none) (gl : Gl X "max") (ha : PE X a (tD F X.K W ea)) (hb : PE X b (tD F X.K W eb)) (ns : NoStar X [a, b]) : PE X (.Call (.Name "max" p) [a, b] [] pos) (tD F X.K W (.bu .max2 (.cons ea (.cons eb .nil)))) := by
  have hA : PA X [a, b] (tDs F X.K W (.cons ea (.cons eb .nil))) := a_cons ha (a_cons hb a_nil ns.2.1) ns.1
  refine PE.imp (pe_callB (call_max2 G.calm) gl (G.bl _ (by decide +kernel) hg) PyProof.Rows.boot_max hA (by decide +kernel) (by decide +kernel) ns.1 (noStar_any ns.2)) fun σ H Q ⟨Φ, ρ, δ, r, q⟩ => ?_
  simp only [ev] at q
  refine PostG.binds r q fun vs H1 ds δ1 r1 g1 q1 q => ?_
  obtain ⟨v, d, v2, d2, rfl, rfl, q2, q3⟩ := arg2 q1
  cases d <;> cases d2 <;> first | exact q.elim | skip
  simp only [Dat2, Dat] at q2 q3
  subst q2; subst q3
  exact ⟨_, _, rfl, PE1.scal rfl (q H1 Gr.refl r1.ds) (by simp [Dat])⟩
theorem rangeD_dat {K : PySem.W.Frag} {H : Hp} {A : Addr → Prop} : ∀ (n : Nat) (lo : Int), DatL K H A ((List.range n).map fun i => V.int (lo + (i : Nat))) (rangeD lo n)
  | 0, lo => by simp [rangeD, DatL]
  | n + 1, lo => by
    rw [List.range_succ_eq_map, List.map_cons, List.map_map]
    simp only [rangeD]
    refine DatL.cons (by simp [Dat]) ?_
    have := rangeD_dat (K := K) (H := H) (A := A) n (lo + 1)
    have e : ((fun i => V.int (lo + (i : Nat))) ∘ Nat.succ) = fun i : Nat => V.int (lo + 1 + (i : Nat)) := by
      funext i
      simp only [Function.comp_apply, V.int.injEq]
      omega
    rw [e]
    exact this
theorem d_lrange {p1 pos1 : Pos} (G : Good c F X W) (hg : c.G.lookup ("list" : Str) = none) (gl : Gl X "list") (hr : c.G.lookup ("range" : Str) = none) (gr : Gl X "range") (ha : PE X a (tD F X.K W ea)) (ns : starEach [a] X.env = [(false, eval a X.env)]) :
    PE X (.Call (.Name "list" p) [.Call (.Name "range" p1) [a] [] pos1] [] pos) (tD F X.K W (.bu .lrange (.cons ea .nil))) := by
  refine PE.imp (pe_listRg G.calm gl (G.bl _ (by decide +kernel) hg) (prg_1 gr (G.bl _ (by decide +kernel) hr) ha ns) rfl) fun σ H Q ⟨Φ, ρ, δ, r, q⟩ => ?_
  have e : ev F (.bu .lrange (.cons ea .nil)) ρ δ = (ev F ea ρ δ).bind fun x δ => R.ofOpt δ (buD .lrange [x]) := by
    simp only [ev, evs]
    cases ev F ea ρ δ <;> rfl
  rw [e] at q
  refine PostG.bind r q fun x H1 d1 δ1 r1 g1 q1 _ q => ?_
  cases d1 with
  | int n =>
    simp only [Dat2, Dat] at q1
    subst q1
    simp only [buD] at q
    split at q
    · rename_i hn
      refine ⟨n, rfl, RgOk.of_le (by omega) (by omega) (by omega) (by omega), fun l hl => ?_⟩
      refine PE1.newL r g1 r1 q ?_ hl
      have := rangeD_dat (K := X.K) (H := H1) (A := AvX Φ σ ρ (esc1 (.bu .lrange (.cons ea .nil)))) n.toNat 0
      unfold rgV
      rw [show (n - 0).toNat = n.toNat by omega]
      exact this
    · exact q.elim
  | _ => exact q.elim

/-! ### isinstance -/
def tyName : TY → String
  | .int => "int"
  | .bool => "bool"
  | .str => "str"
  | .list => "list"
  | .tuple => "tuple"
theorem tyOf_eq {x : Str} {t : TY} (h : tyOf x = some t) : x = Str.ofString (tyName t) ∧ bootBuiltins x = some (.type (tyName t)) ∧ x ∈ blts ∧ x ≠ "__name__" ∧ (x == ("__debug__" : Str)) = false := by
  unfold tyOf at h
  split at h
  · rename_i e; injection h with h; subst h; subst e; exact ⟨rfl, by decide +kernel, by decide +kernel, by decide +kernel, by decide +kernel⟩
  split at h
  · rename_i e; injection h with h; subst h; subst e; exact ⟨rfl, by decide +kernel, by decide +kernel, by decide +kernel, by decide +kernel⟩
  split at h
  · rename_i e; injection h with h; subst h; subst e; exact ⟨rfl, by decide +kernel, by decide +kernel, by decide +kernel, by decide +kernel⟩
  split at h
  · rename_i e; injection h with h; subst h; subst e; exact ⟨rfl, by decide +kernel, by decide +kernel, by decide +kernel, by decide +kernel⟩
  split at h
  · rename_i e; injection h with h; subst h; subst e; exact ⟨rfl, by decide +kernel, by decide +kernel, by decide +kernel, by decide +kernel⟩
  · cases h
def dTy : D → String
  | .none => "NoneType"
  | .bool _ => "bool"
  | .int _ => "int"
  | .str _ => "str"
  | .list _ => "list"
  | .tuple _ => "tuple"
  | .dict _ => "dict"
theorem kit_all {K : PySem.W.Frag} {d : D} {t : TY} : PySem.W.kitOne K (.type (dTy d)) (.type (tyName t)) = some (isTy t d) := by
  cases d with
  | dict b => cases t <;> exact kit_ty (show kitB "dict" _ = some false by decide +kernel)
  | none => cases t <;> exact kit_ty (by decide +kernel)
  | bool b => cases t <;> first | exact kit_ty (show kitB "bool" _ = some true by decide +kernel) | exact kit_ty (show kitB "bool" _ = some false by decide +kernel)
  | int b => cases t <;> first | exact kit_ty (show kitB "int" _ = some true by decide +kernel) | exact kit_ty (show kitB "int" _ = some false by decide +kernel)
  | str b => cases t <;> first | exact kit_ty (show kitB "str" _ = some true by decide +kernel) | exact kit_ty (show kitB "str" _ = some false by decide +kernel)
  | list b => cases t <;> first | exact kit_ty (show kitB "list" _ = some true by decide +kernel) | exact kit_ty (show kitB "list" _ = some false by decide +kernel)
  | tuple b => cases t <;> first | exact kit_ty (show kitB "tuple" _ = some true by decide +kernel) | exact kit_ty (show kitB "tuple" _ = some false by decide +kernel)
theorem dat_ty {K : PySem.W.Frag} {H : Hp} {A B : Addr → Prop} {v : V} {d : D} (q : Dat2 K H A B v d) : TyX K H v (.type (dTy d)) ∨ ∃ a o es, v = .ref a ∧ H a = some (DO a o) ∧ GoodD a o es ∧ dTy d = "dict" := by
  cases d with
  | none => simp only [Dat2, Dat] at q; subst q; exact .inl (.base .non)
  | bool b => simp only [Dat2, Dat] at q; subst q; exact .inl (.base (.bl b))
  | int b => simp only [Dat2, Dat] at q; subst q; exact .inl (.base (.int b))
  | str b => simp only [Dat2, Dat] at q; subst q; exact .inl (.base (.str b))
  | list ds =>
    simp only [Dat2] at q
    obtain ⟨a, xs, rfl, e, _⟩ := q
    exact .inl (.base (.lst e))
  | tuple ds =>
    simp only [Dat2] at q
    obtain ⟨a, xs, rfl, e, _⟩ := q
    refine .inl ?_
    rcases e with ⟨e, _⟩ | ⟨o, its, n, e, c, _⟩
    · exact .base (.tup e)
    · exact .kTuple e c
  | dict _ =>
    simp only [Dat2] at q
    obtain ⟨a, o, xs, rfl, e, _, g, _⟩ := q
    exact .inr ⟨a, o, xs, rfl, e, g, rfl⟩
/-- isinstance(d, c), d a dict of ours -/
def rIsiN (K : PySem.W.Frag) : List V → Hp → VK → Prop := fun xs H Q => ∃ (a : Addr) (o : Obj) (es : List KEnt) (c : V) (u : Value) (b : Bool), xs = [.ref a, c] ∧ ClsV c u ∧ H a = some (DO a o) ∧ GoodD a o es ∧ PySem.W.kitOne K (.type "dict") u = some b ∧ Q (.bl b) H
theorem call_isiN : CallR X (.builtin "isinstance") (rIsiN X.K) := by
  intro pins s σ H xs us Q I r h
  obtain ⟨a, o, es, c, u, b, rfl, k, ea, g, e, q⟩ := h
  obtain ⟨u1, u2, rfl, r1, r2⟩ := vals2 r
  have e2 := k.eq r2
  subst e2
  cases (show u1 = Value.ref a from r1)
  exact PySem.W.kia_one PySem.W.kitx_dict I.kIn ⟨o, do_at I ea, g.ex.1⟩ e (fun z => nomatch z) fun tk => ⟨.bl b, H, I.tok tk, rfl, q⟩
theorem d_isi {x : Str} {t : TY} {px : Pos} (G : Good c F X W) (hg : c.G.lookup ("isinstance" : Str) = none) (gl : Gl X "isinstance") (ht : tyOf x = some t) (hx : c.G.lookup x = none) (gx : Gl X x) (ha : PE X a (tD F X.K W ea)) (ns : starEach (a :: [.Name x px]) X.env = (false, eval a X.env) :: starEach [.Name x px] X.env) :
    PE X (.Call (.Name "isinstance" p) [a, .Name x px] [] pos) (tD F X.K W (.isi t ea)) := by
  obtain ⟨hxn, hb, hm, hnn, hdd⟩ := tyOf_eq ht
  have hp : (backTo pos (starEach [.Name x px] X.env)).any (·.1) = false := by simp [starEach, backTo]
  refine PE.imp (pe_callB (CallR.or call_isi call_isiN) gl (G.bl _ (by decide +kernel) hg) PyProof.Rows.boot_isinstance (pa_cons ha (pa_cons (pe_bltn (v := .ty (tyName t)) gx (G.bl x hm hx) hb rfl hnn hdd) pa_nil rfl) ns) (by decide +kernel) (by decide +kernel) ns hp) fun σ H Q ⟨Φ, ρ, δ, r, q⟩ => ?_
  simp only [ev] at q
  refine PostG.bind r q fun v H1 d1 δ1 r1 g1 q1 _ q => ?_
  rcases dat_ty q1 with ty | ⟨aa, o, es, rfl, e1, g, e2⟩
  · exact .inl ⟨v, .ty (tyName t), .type (dTy d1), .type (tyName t), isTy t d1, rfl, .ty _, ty, kit_all, PE1.scal rfl (q H1 Gr.refl r1.ds) (by simp [Dat])⟩
  · exact .inr ⟨aa, o, es, .ty (tyName t), .type (tyName t), isTy t d1, rfl, .ty _, e1, g, by rw [← e2]; exact kit_all, PE1.scal rfl (q H1 Gr.refl r1.ds) (by simp [Dat])⟩
end
end Tk
set_option linter.all false
set_option Elab.async false
set_option maxRecDepth 100000
set_option maxHeartbeats 1000000
namespace Tk
open PySem L2

/-! ### targets -/
def SetsOnly (σ σ' : L2.St) (X : List Nat) : Prop := σ'.length = σ.length ∧ ∀ i, i ∉ X → σ'[i]? = σ[i]?
theorem SetsOnly.refl {σ : L2.St} {X : List Nat} : SetsOnly σ σ X := ⟨rfl, fun _ _ => rfl⟩
theorem SetsOnly.trans {σ σ1 σ2 : L2.St} {X : List Nat} (a : SetsOnly σ σ1 X) (b : SetsOnly σ1 σ2 X) : SetsOnly σ σ2 X := ⟨b.1.trans a.1, fun i h => (b.2 i h).trans (a.2 i h)⟩
theorem SetsOnly.mono {σ σ1 : L2.St} {X Y : List Nat} (a : SetsOnly σ σ1 X) (h : ∀ i ∈ X, i ∈ Y) : SetsOnly σ σ1 Y := ⟨a.1, fun i n => a.2 i fun z => n (h i z)⟩
theorem SetsOnly.set {σ : L2.St} {X : List Nat} {i : Nat} {v : Option V} (h : i ∈ X) : SetsOnly σ (σ.set i v) X := ⟨by simp, fun j n => by rw [List.getElem?_set_ne (fun e => n (by rw [← e]; exact h))]⟩
theorem wipe_get : ∀ (vs : List Nat) (σ : L2.St) (i : Nat), (wipe σ vs)[i]? = if i ∈ vs ∧ i < σ.length then some none else σ[i]?
  | [], σ, i => by simp [wipe]
  | v :: vs, σ, i => by
    unfold wipe
    by_cases h : i = v
    · subst h
      by_cases hl : i < σ.length
      · rw [List.getElem?_set_self (by rw [wipe_length]; exact hl), if_pos ⟨by simp, hl⟩]
      · rw [if_neg (fun z => hl z.2), List.getElem?_eq_none (by simp [wipe_length]; omega), List.getElem?_eq_none (by omega)]
    · rw [List.getElem?_set_ne (Ne.symm h), wipe_get vs σ i]
      simp [h]
theorem wipe_only {σ σ' : L2.St} {X : List Nat} (h : SetsOnly (wipe σ X) σ' X) : wipe σ' X = wipe σ X := by
  refine List.ext_getElem? fun i => ?_
  have hl : σ'.length = σ.length := by rw [h.1, wipe_length]
  rw [wipe_get]
  by_cases hi : i ∈ X
  · by_cases hi2 : i < σ'.length
    · rw [if_pos ⟨hi, hi2⟩, wipe_get, if_pos ⟨hi, by omega⟩]
    · rw [if_neg (fun z => hi2 z.2), List.getElem?_eq_none (by omega), List.getElem?_eq_none (by rw [wipe_length]; omega)]
  · rw [if_neg (fun z => hi z.1)]
    exact h.2 i hi
section
variable {K : PySem.W.Frag} {Φ : Fm} {σ : L2.St} {H : Hp} {ρ ρ' : Env} {δ : DS}
theorem Rel.wipe (r : Rel K Φ σ H ρ δ) : ∀ vs : List Nat, Rel K Φ (L2.wipe σ vs) H (wipeE ρ vs) δ
  | [] => r
  | v :: vs => (Rel.wipe r vs).setNo
theorem wipeE_get : ∀ (vs : List Nat) (ρ : Env) (i : Nat), i ∉ vs → (wipeE ρ vs)[i]? = ρ[i]?
  | [], ρ, i, _ => rfl
  | v :: vs, ρ, i, h => by
    simp only [List.mem_cons, not_or] at h
    unfold wipeE
    rw [List.getElem?_set_ne (Ne.symm h.1), wipeE_get vs ρ i h.2]
theorem wipeE_len : ∀ (vs : List Nat) (ρ : Env), (wipeE ρ vs).length = ρ.length
  | [], ρ => rfl
  | v :: vs, ρ => by unfold wipeE; rw [List.length_set, wipeE_len]
theorem wipeE_ow : ∀ (vs : List Nat) {ρ : Env} {i : Nat} {d : D}, (wipeE ρ vs)[i]? = some (.ow d) → ρ[i]? = some (.ow d) ∧ i ∉ vs
  | [], ρ, i, d, h => ⟨h, by simp⟩
  | v :: vs, ρ, i, d, h => by
    unfold wipeE at h
    rcases set_get h with ⟨_, e, _⟩ | ⟨n, h⟩
    · cases e
    · obtain ⟨h1, h2⟩ := wipeE_ow vs h
      exact ⟨h1, by simp only [List.mem_cons, not_or]; exact ⟨n, h2⟩⟩
mutual
theorem bindT_only : ∀ (tg : Tg) {ρ ρ' : Env} {d : D}, bindT ρ tg d = some ρ' → ρ'.length = ρ.length ∧ ∀ j, j ∉ tg.ixs → ρ'[j]? = ρ[j]?
  | .n i, ρ, ρ', d, h => by
    simp only [bindT] at h
    split at h
    · injection h with h; subst h
      refine ⟨by simp, fun j hj => ?_⟩
      simp only [Tg.ixs, List.mem_singleton] at hj
      rw [List.getElem?_set_ne (Ne.symm hj)]
    · cases h
  | .t l, ρ, ρ', d, h => by
    cases d <;> simp only [bindT] at h <;> first | cases h | skip
    have := bindTs_only l h
    simpa only [Tg.ixs] using this
theorem bindTs_only : ∀ (l : Tgs) {ρ ρ' : Env} {ds : List D}, bindTs ρ l ds = some ρ' → ρ'.length = ρ.length ∧ ∀ j, j ∉ l.ixs → ρ'[j]? = ρ[j]?
  | .nil, ρ, ρ', ds, h => by
    cases ds <;> simp only [bindTs] at h <;> first | cases h | skip
    exact ⟨rfl, fun _ _ => rfl⟩
  | .cons a l, ρ, ρ', ds, h => by
    cases ds with
    | nil => simp [bindTs] at h
    | cons d ds =>
      simp only [bindTs] at h
      split at h
      · rename_i ρ1 e
        obtain ⟨h1, h2⟩ := bindT_only a e
        obtain ⟨h3, h4⟩ := bindTs_only l h
        refine ⟨h3.trans h1, fun j hj => ?_⟩
        simp only [Tgs.ixs, List.mem_append, not_or] at hj
        exact (h4 j hj.2).trans (h2 j hj.1)
      · cases h
end
end
/-- a target's reading -/
def gT (K : PySem.W.Frag) (tg : Tg) : TG := fun v σ H Q => ∃ Φ ρ δ d ρ', Rel K Φ σ H ρ δ ∧ Dat K H (Av Φ σ ρ) v d ∧ bindT ρ tg d = some ρ' ∧ ∀ σ', Rel K Φ σ' H ρ' δ → SetsOnly σ σ' tg.ixs → (∀ a, Av Φ σ' ρ' a → Av Φ σ ρ a) → Q σ' H
def gTs (K : PySem.W.Frag) (l : Tgs) : TGs := fun vs σ H Q => ∃ Φ ρ δ ds ρ', Rel K Φ σ H ρ δ ∧ DatL K H (Av Φ σ ρ) vs ds ∧ bindTs ρ l ds = some ρ' ∧ ∀ σ', Rel K Φ σ' H ρ' δ → SetsOnly σ σ' l.ixs → (∀ a, Av Φ σ' ρ' a → Av Φ σ ρ a) → Q σ' H
theorem PG.imp {X : Cx} {tg : Expr} {t t' : TG} (h : PG X tg t) (i : ∀ v σ H Q, t' v σ H Q → t v σ H Q) : PG X tg t' := ⟨fun pins s σ H v u Q I r q => h.run pins s σ H v u Q I r (i v σ H Q q)⟩
theorem PGs.imp {X : Cx} {tg : List Expr} {t t' : TGs} (h : PGs X tg t) (i : ∀ v σ H Q, t' v σ H Q → t v σ H Q) : PGs X tg t' := ⟨fun pins s σ H v u Q I r q => h.run pins s σ H v u Q I r (i v σ H Q q)⟩
section
variable {X : Cx} {c : Ctx}
theorem ixOf_get {x : Str} : ∀ {N : List Str} {i : Nat}, ixOf x N = some i → N[i]? = some x
  | [], i, h => by simp [ixOf] at h
  | y :: ys, i, h => by
    unfold ixOf at h
    split at h
    · rename_i e
      injection h with h; subst h
      simp [e]
    · cases e : ixOf x ys with
      | none => rw [e] at h; cases h
      | some j =>
        rw [e] at h
        simp at h
        subst h
        simpa using ixOf_get e
theorem tg_ok {x : Str} {i : Nat} (hN : X.N = c.N) (hs : X.env.scope = c.sc) (hf : X.fn = c.fnc) (h : tgOf c x = some i) : X.N[i]? = some x ∧ Loc X.env.scope x ∧ (X.fn x = true ∨ X.env.scope.names.lookup x = some .local) := by
  unfold tgOf at h
  split at h
  · rename_i ho
    unfold okTg at ho
    rw [hN, hs, hf]
    split at ho
    · rename_i e
      exact ⟨ixOf_get h, .inl e, .inr e⟩
    · rename_i e
      exact ⟨ixOf_get h, .inr e, .inl ho⟩
    · cases ho
  · cases h
def isStar : Expr → Bool
  | .Starred _ _ => true
  | _ => false
theorem assignEach_cons {e : Expr} {es : List Expr} {env : PySem.Env} (h : isStar e = false) : assignEach (e :: es) env = (false, assign e env) :: assignEach es env := by
  cases e <;> first | rfl | cases h
theorem cmpTg_star : ∀ {n : Nat} {e : Expr} {t : Tg}, cmpTg c n e = some t → isStar e = false
  | 0, e, t, h => by simp [cmpTg] at h
  | n + 1, e, t, h => by
    cases e <;> first | rfl | (simp [cmpTg] at h)
theorem cmpTgs_len : ∀ {n : Nat} {es : List Expr} {l : Tgs}, cmpTgs c n es = some l → ∀ env : PySem.Env, (assignEach es env).length = l.len ∧ (assignEach es env).findIdx? (·.1) = none
  | 0, es, l, h, _ => by simp [cmpTgs] at h
  | n + 1, [], l, h, env => by
    simp [cmpTgs] at h
    subst h
    exact ⟨rfl, rfl⟩
  | n + 1, e :: es, l, h, env => by
    simp only [cmpTgs] at h
    split at h
    · rename_i a l' h1 h2
      injection h with h; subst h
      obtain ⟨g1, g2⟩ := cmpTgs_len h2 env
      rw [assignEach_cons (cmpTg_star h1)]
      refine ⟨by simp [Tgs.len, g1], ?_⟩
      simp only [List.findIdx?_cons, Bool.false_eq_true, if_false, g2, Option.map_none]
    · cases h
theorem bindTs_len : ∀ (l : Tgs) {ρ ρ' : Env} {ds : List D}, bindTs ρ l ds = some ρ' → ds.length = l.len
  | .nil, ρ, ρ', ds, h => by
    cases ds with
    | nil => rfl
    | cons _ _ => simp [bindTs] at h
  | .cons a l, ρ, ρ', ds, h => by
    cases ds with
    | nil => simp [bindTs] at h
    | cons d ds =>
      simp only [bindTs] at h
      split at h
      · simp [Tgs.len, bindTs_len l h]
      · cases h
theorem g_ok (hN : X.N = c.N) (hs : X.env.scope = c.sc) (hf : X.fn = c.fnc) (nd : X.N.Nodup) (hc : X.calm = true) : ∀ n, (∀ e t, cmpTg c n e = some t → PG X e (gT X.K t)) ∧ (∀ es l, cmpTgs c n es = some l → PGs X es (gTs X.K l))
  | 0 => ⟨fun e t h => by simp [cmpTg] at h, fun es l h => by simp [cmpTgs] at h⟩
  | n + 1 => by
    obtain ⟨ih1, ih2⟩ := g_ok hN hs hf nd hc n
    refine ⟨fun e t h => ?_, fun es l h => ?_⟩
    · cases e with
      | Name x pos =>
        simp only [cmpTg] at h
        cases hx : tgOf c x with
        | none => rw [hx] at h; cases h
        | some i =>
          rw [hx] at h
          injection h with h; subst h
          obtain ⟨h1, h2, h3⟩ := tg_ok hN hs hf hx
          refine PG.imp (pg_name nd h1 h2 h3) fun v σ H Q ⟨Φ, ρ, δ, d, ρ', r, q, b, k⟩ => ?_
          simp only [bindT] at b
          split at b
          · injection b with b; subst b
            exact k _ (r.setVa q) (SetsOnly.set (by simp [Tg.ixs])) (fun a z => av_set (s := .va d) (fun _ w => by cases w) z)
          · cases b
      | Tuple es k pos =>
        simp only [cmpTg] at h
        cases hx : cmpTgs c n es with
        | none => rw [hx] at h; cases h
        | some l =>
          rw [hx] at h
          injection h with h; subst h
          obtain ⟨g1, g2⟩ := cmpTgs_len hx X.env
          refine PG.imp (pg_tup hc (ih2 es l hx) g1 g2) fun v σ H Q h => ?_
          obtain ⟨Φ, ρ, δ, d, ρ', r, q, b, k⟩ := h
          cases d <;> simp only [bindT] at b <;> first | cases b | skip
          rename_i ds
          simp only [Dat] at q
          obtain ⟨a, xs, rfl, e1, l1⟩ := q
          exact ⟨a, xs, rfl, ktSq e1, by rw [l1.length]; exact bindTs_len l b, Φ, ρ, δ, ds, ρ', r, l1, b, fun σ' r' so sa => k σ' r' (by simpa only [Tg.ixs] using so) sa⟩
      | _ => simp [cmpTg] at h
    · cases es with
      | nil =>
        simp [cmpTgs] at h
        subst h
        refine PGs.imp pgs_nil fun vs σ H Q h => ?_
        obtain ⟨Φ, ρ, δ, ds, ρ', r, q, b, k⟩ := h
        cases ds with
        | nil =>
          simp only [bindTs, Option.some.injEq] at b
          subst b
          cases vs with
          | nil => exact ⟨rfl, k σ r SetsOnly.refl fun _ z => z⟩
          | cons _ _ => simp [DatL] at q
        | cons _ _ => simp [bindTs] at b
      | cons e es =>
        simp only [cmpTgs] at h
        split at h
        · rename_i a l' h1 h2
          injection h with h; subst h
          refine PGs.imp (pgs_cons (ih1 e a h1) (ih2 es l' h2) (by rw [assignEach_cons (cmpTg_star h1)]; rfl)) fun vs σ H Q ⟨Φ, ρ, δ, ds, ρ', r, q, b, k⟩ => ?_
          cases ds with
          | nil => simp [bindTs] at b
          | cons d ds =>
            cases vs with
            | nil => simp [DatL] at q
            | cons v vs =>
              simp only [DatL] at q
              simp only [bindTs] at b
              split at b
              · rename_i ρ1 e1
                refine ⟨v, vs, rfl, Φ, ρ, δ, d, ρ1, r, q.1, e1, fun σ1 r1 so1 sa1 => ?_⟩
                refine ⟨Φ, ρ1, δ, ds, ρ', r1, DatL.mono (fun a o e _ n => ⟨e, fun z => n (sa1 a z)⟩) ds q.2, b, fun σ2 r2 so2 sa2 => ?_⟩
                refine k σ2 r2 ((so1.mono fun i hi => ?_).trans (so2.mono fun i hi => ?_)) fun a z => sa1 a (sa2 a z)
                · simp only [Tgs.ixs, List.mem_append]; exact .inl hi
                · simp only [Tgs.ixs, List.mem_append]; exact .inr hi
              · cases b
        · cases h
end

/-! ### what is walked -/
structure WD (K : PySem.W.Frag) (J : It) (C : Addr → HO → Prop) (T : V → D → Prop) (ds : List D) : Prop where
  go : ∀ i H, i < ds.length → (∀ a o, C a o → H a = some o) → J.go i H
  stop : ∀ H, (∀ a o, C a o → H a = some o) → J.stop ds.length H
  yld : ∀ i H x H' (B : Addr → Prop), i < ds.length → (∀ a o, C a o → H a = some o) → (∀ v d, T v d → Dat K H B v d) → (∀ a, B a → ∃ m : Mu, H a = some m.o) → J.yld i H x H' → Ex H H' ∧ ∃ d, ds[i]? = some d ∧ Dat K H' B x d
  bd : ds.length ≤ sizeLine
def tI (F : Tab) (K : PySem.W.Frag) (W : WS) (it : I) : TI := fun σ H R => ∃ Φ ρ δ, Rel K Φ σ H ρ δ ∧ clear ρ (escI it) = true ∧ PostG Φ σ H W (fun ds _ H' => ∀ J C T, WD K J C T ds → (∀ a o, C a o → H' a = some o ∧ ¬ AvX Φ σ ρ (escR it) a) → (∀ v d, T v d → Dat K H' (Av Φ σ ρ) v d) → R J H') (evI F it ρ δ)
theorem PI.imp {X : Cx} {tg it : Expr} {t t' : TI} (h : PI X tg it t) (i : ∀ σ H R, t' σ H R → t σ H R) : PI X tg it t' := ⟨fun pins s σ H R I q => h.run pins s σ H R I (i σ H R q)⟩
theorem PI.or {X : Cx} {tg it : Expr} {t t' : TI} (h : PI X tg it t) (h' : PI X tg it t') : PI X tg it (fun σ H R => t σ H R ∨ t' σ H R) := ⟨fun pins s σ H R I q => q.elim (h.run pins s σ H R I) (h'.run pins s σ H R I)⟩
/-- lengths of what is read -/
def Lens (K : PySem.W.Frag) (H : Hp) : Prop := (∀ a xs, SqL K H a xs → xs.length ≤ sizeLine) ∧ ∀ a xs, SqT K H a xs → xs.length ≤ sizeLine
theorem PE.len {X : Cx} {e : Expr} {t : TE} (h : PE X e t) : PE X e (fun σ H Q => t σ H fun v H1 => Lens X.K H1 → Q v H1) := ⟨fun pins s σ H Q I q => thn (h.run pins s σ H _ I q) fun u s1 ⟨v, H1, I1, r, k⟩ => ⟨v, H1, I1, r, k ⟨fun a xs z => let ⟨_, _, _, b⟩ := I1.list z; b, fun a xs z => let ⟨_, _, _, b⟩ := I1.tuple z; b⟩⟩⟩
theorem PA.len {X : Cx} {e : List Expr} {t : TA} (h : PA X e t) : PA X e (fun σ H Q => t σ H fun v H1 => Lens X.K H1 → Q v H1) := ⟨fun p pins s σ H Q I q => thn (h.run p pins s σ H _ I q) fun u s1 ⟨v, H1, I1, r, k⟩ => ⟨v, H1, I1, r, k ⟨fun a xs z => let ⟨_, _, _, b⟩ := I1.list z; b, fun a xs z => let ⟨_, _, _, b⟩ := I1.tuple z; b⟩⟩⟩
section
variable {F : Tab} {W : WS} {X : Cx} {c : Ctx} {a b tg : Expr} {e ea eb ec : E} {pos p : Pos} {K : PySem.W.Frag}
theorem wd_list {q : Addr} {xs : List V} {ds : List D} (hl : xs.length = ds.length) (bd : xs.length ≤ sizeLine) : WD K (Itl K q) (fun a o => a = q ∧ o = .lst xs) (fun v d => ∃ i : Nat, xs[i]? = some v ∧ ds[i]? = some d) ds := by
  have sq : ∀ {H : Hp}, (∀ a o, a = q ∧ o = .lst xs → H a = some o) → SqL K H q xs := fun h => SqL.of (h q _ ⟨rfl, rfl⟩)
  refine ⟨fun i H hi h => ⟨xs, xs[i]'(by omega), sq h, by simp [show i < xs.length by omega]⟩, fun H h => ⟨xs, sq h, by omega⟩, fun i H x H' B hi h t _ y => ?_, by omega⟩
  obtain ⟨rfl, y⟩ := y
  refine ⟨fun _ _ h => h, ds[i], by simp [hi], t x _ ⟨i, y xs (sq h), by simp [hi]⟩⟩
theorem wd_tup {q : Addr} {xs : List V} {ds : List D} (hk : KTup K q xs ∨ True) (hl : xs.length = ds.length) (bd : xs.length ≤ sizeLine) {C : Addr → HO → Prop} (hc : ∀ H : Hp, (∀ a o, C a o → H a = some o) → SqT K H q xs) : WD K (Itt K q) C (fun v d => ∃ i : Nat, xs[i]? = some v ∧ ds[i]? = some d) ds := by
  refine ⟨fun i H hi h => ⟨xs, xs[i]'(by omega), hc H h, by simp [show i < xs.length by omega]⟩, fun H h => ⟨xs, hc H h, by omega⟩, fun i H x H' B hi h t _ y => ?_, by omega⟩
  obtain ⟨rfl, y⟩ := y
  refine ⟨fun _ _ h => h, ds[i], by simp [hi], t x _ ⟨i, y xs (hc _ h), by simp [hi]⟩⟩
theorem DatL.pairs {H : Hp} {A : Addr → Prop} {xs : List V} {ds : List D} (l : DatL K H A xs ds) : ∀ v d, (∃ i : Nat, xs[i]? = some v ∧ ds[i]? = some d) → Dat K H A v d := fun v d ⟨i, h1, h2⟩ => by
  obtain ⟨v', e1, e2⟩ := l.get h2
  rw [h1] at e1
  injection e1 with e1
  rw [e1]
  exact e2
theorem av_full {Φ : Fm} {σ : L2.St} {ρ : Env} {Y : List Nat} (h : clear ρ Y = true) {H : Hp} {vs : List V} {ds : List D} (l : DatL K H (AvX Φ σ ρ Y) vs ds) : DatL K H (Av Φ σ ρ) vs ds := DatL.mono (fun a o e _ n => ⟨e, fun z => n (av_clear h z)⟩) ds l
theorem wd_keys {q : Addr} {o : Obj} {xs : List KEnt} {ds : List (D × D)} (hl : xs.length = ds.length) (bd : xs.length ≤ sizeLine) : WD K (ItN q o xs) (fun a u => a = q ∧ u = DO q o) (fun v d => ∃ (i : Nat) (x : KEnt), xs[i]? = some x ∧ v = .ref x.2.1 ∧ (ds.map (·.1))[i]? = some d) (ds.map (·.1)) := by
  have hm : (ds.map (·.1)).length = xs.length := by rw [List.length_map, hl]
  refine ⟨fun i H hi h => ⟨h q _ ⟨rfl, rfl⟩, by omega⟩, fun H h => ⟨h q _ ⟨rfl, rfl⟩, by omega⟩, fun i H x H' B hi h t _ y => ?_, by omega⟩
  obtain ⟨rfl, e, he, rfl⟩ := y
  exact ⟨fun _ _ h => h, (ds.map (·.1))[i], List.getElem?_eq_getElem hi, t _ _ ⟨i, e, he, rfl, List.getElem?_eq_getElem hi⟩⟩
theorem av_fullP {Φ : Fm} {σ : L2.St} {ρ : Env} {Y : List Nat} (h : clear ρ Y = true) {H : Hp} {vs : List KEnt} {ds : List (D × D)} (l : DatP K H (AvX Φ σ ρ Y) vs ds) : DatP K H (Av Φ σ ρ) vs ds := DatP.mono (fun a o e _ n => ⟨e, fun z => n (av_clear h z)⟩) ds l
theorem i_sq (ha : PE X a (tD F X.K W ea)) : PI X tg a (tI F X.K W (.sq ea)) := by
  refine PI.imp (PI.or (PI.or (pi_list (PE.len ha)) (pi_tup (PE.len ha))) (pi_keysN ha)) fun σ H R ⟨Φ, ρ, δ, r, cl, q⟩ => ?_
  simp only [evI] at q
  have go : ∀ (b : Bool), (∀ d δ1, ev F ea ρ δ = .ok d δ1 → if b then ∃ ds, d = .list ds else ∃ ds, d = .tuple ds) → (if b then iList X.K (fun σ H Q => tD F X.K W ea σ H fun v H1 => Lens X.K H1 → Q v H1) σ H R else iTup X.K (fun σ H Q => tD F X.K W ea σ H fun v H1 => Lens X.K H1 → Q v H1) σ H R) := fun b hb => by
    cases b with
    | true =>
      refine ⟨Φ, ρ, δ, r, ?_⟩
      cases qe : ev F ea ρ δ with
      | ok d δ1 =>
        rw [qe] at q
        obtain ⟨ds, rfl⟩ := hb d δ1 qe
        intro H1 g1 ds1 v dat _ len
        simp only [Dat2] at dat
        obtain ⟨pp, xs, rfl, e1, n1, l1⟩ := dat
        refine ⟨pp, rfl, ⟨xs, SqL.of e1⟩, q H1 g1 ds1 _ _ _ (wd_list l1.length (len.1 pp xs (SqL.of e1))) (fun a o ⟨h1, h2⟩ => by subst h1; subst h2; exact ⟨e1, n1⟩) (DatL.pairs (av_full (by simpa [escI] using cl) l1))⟩
      | er c δ1 => rw [qe] at q; exact q
      | bad => rw [qe] at q; exact q
    | false =>
      refine ⟨Φ, ρ, δ, r, ?_⟩
      cases qe : ev F ea ρ δ with
      | ok d δ1 =>
        rw [qe] at q
        obtain ⟨ds, rfl⟩ := hb d δ1 qe
        intro H1 g1 ds1 v dat _ len
        simp only [Dat2] at dat
        obtain ⟨pp, xs, rfl, e1, l1⟩ := dat
        refine ⟨pp, rfl, ⟨xs, ktSq e1⟩, q H1 g1 ds1 _ (fun a o => a = pp ∧ o = .tup xs ∧ H1 pp = some (.tup xs)) _ (wd_tup (.inr trivial) l1.length (len.2 pp xs (ktSq e1)) fun H' h => ?_) (fun a o ⟨h1, h2, h3⟩ => ?_) (DatL.pairs (av_full (by simpa [escI] using cl) l1))⟩
        · rcases e1 with ⟨e1, _⟩ | e1
          · exact SqT.of (h pp _ ⟨rfl, rfl, e1⟩)
          · exact .inr e1
        · subst h1; subst h2
          exact ⟨h3, tup_av (r.grow g1 ds1) h3⟩
      | er c δ1 => rw [qe] at q; exact q
      | bad => rw [qe] at q; exact q
  cases qe : ev F ea ρ δ with
  | ok d δ1 =>
    cases d with
    | list ds => exact .inl <| .inl (go true fun d δ1 h => by rw [qe] at h; cases h; exact ⟨ds, rfl⟩)
    | tuple ds => exact .inl <| .inr (go false fun d δ1 h => by rw [qe] at h; cases h; exact ⟨ds, rfl⟩)
    | dict kvs =>
      refine .inr ⟨Φ, ρ, δ, r, ?_⟩
      rw [qe]
      rw [qe] at q
      intro H1 g1 ds1 v dat _
      simp only [Dat2] at dat
      obtain ⟨pp, o, xs, rfl, e1, n1, gd, l1⟩ := dat
      have l2 := av_fullP (by simpa [escI] using cl) l1
      refine ⟨pp, o, xs, rfl, e1, gd, q H1 g1 ds1 _ _ _ (wd_keys l1.length gd.len) (fun a o ⟨h1, h2⟩ => by subst h1; subst h2; exact ⟨e1, n1⟩) fun v d ⟨i, x, h1, h2, h3⟩ => ?_⟩
      obtain ⟨d', h4, h5⟩ := l2.getK h1
      rw [h3] at h4
      injection h4 with h4
      rw [h2, h4]
      exact h5
    | _ => rw [qe] at q; exact q.elim
  | er c δ1 => exact .inl <| .inl (go true fun d δ1 h => by rw [qe] at h; cases h)
  | bad => rw [qe] at q; exact q.elim
theorem rangeD_get : ∀ (n : Nat) (lo : Int) (i : Nat), i < n → (rangeD lo n)[i]? = some (.int (lo + (i : Nat)))
  | 0, lo, i, h => by omega
  | n + 1, lo, 0, h => by simp [rangeD]
  | n + 1, lo, i + 1, h => by
    simp only [rangeD, List.getElem?_cons_succ]
    rw [rangeD_get n (lo + 1) i (by omega)]
    simp only [Option.some.injEq, PyData.int.injEq]
    omega
theorem rangeD_len : ∀ (n : Nat) (lo : Int), (rangeD lo n).length = n
  | 0, lo => rfl
  | n + 1, lo => by simp [rangeD, rangeD_len n]
theorem wd_range {lo : Int} {n : Nat} (hn : n ≤ sizeLine) : WD K (Itr lo n) (fun _ _ => False) (fun _ _ => False) (rangeD lo n) := by
  refine ⟨fun i H hi _ => by rw [rangeD_len] at hi; exact hi, fun H _ => by rw [rangeD_len]; exact Nat.le_refl _, fun i H x H' B hi _ _ _ y => ?_, by rw [rangeD_len]; exact hn⟩
  obtain ⟨rfl, rfl⟩ := y
  rw [rangeD_len] at hi
  exact ⟨fun _ _ h => h, _, rangeD_get n lo i hi, by simp [Dat]⟩
theorem i_r1 (G : Good c F X W) (hg : c.G.lookup ("range" : Str) = none) (gl : Gl X "range") (ha : PE X a (tD F X.K W ea)) (ns : starEach [a] X.env = [(false, eval a X.env)]) : PI X tg (.Call (.Name "range" p) [a] [] pos) (tI F X.K W (.r1 ea)) := by
  refine PI.imp (pi_range1 gl (G.bl _ (by decide +kernel) hg) (pa_cons ha pa_nil ns) ns) fun σ H R ⟨Φ, ρ, δ, r, cl, q⟩ => ?_
  simp only [evI] at q
  refine PostG.bind r q fun v H1 d1 δ1 r1 g1 q1 _ q => ?_
  cases d1 with
  | int n =>
    simp only [Dat2, Dat] at q1
    subst q1
    simp only at q
    split at q
    · rename_i hn
      exact ⟨n, rfl, by omega, by omega, q H1 Gr.refl r1.ds _ _ _ (wd_range (by rw [sizeLine_eq]; omega)) (fun _ _ z => z.elim) (fun _ _ z => z.elim)⟩
    · exact q.elim
  | _ => exact q.elim
theorem i_r2 (G : Good c F X W) (hg : c.G.lookup ("range" : Str) = none) (gl : Gl X "range") (ha : PE X a (tD F X.K W ea)) (hb : PE X b (tD F X.K W eb)) (ns : NoStar X [a, b]) : PI X tg (.Call (.Name "range" p) [a, b] [] pos) (tI F X.K W (.r2 ea eb)) := by
  refine PI.imp (pi_range2 gl (G.bl _ (by decide +kernel) hg) (pa_cons ha (pa_cons hb pa_nil ns.2.1) ns.1) (by rw [ns.1, ns.2.1]; rfl) (by rw [ns.2.1]; rfl)) fun σ H R ⟨Φ, ρ, δ, r, cl, q⟩ => ?_
  simp only [evI] at q
  refine PostG.bind r q fun v H1 d1 δ1 r1 g1 q1 _ q => PostG.bind r1 q fun v2 H2 d2 δ2 r2 g2 q2 _ q => ?_
  cases d1 with
  | int m =>
    cases d2 with
    | int n =>
      simp only [Dat2, Dat] at q1 q2
      subst q1; subst q2
      simp only at q
      split at q
      · rename_i hn
        exact ⟨m, n, rfl, ⟨by omega, by omega, by omega, by omega⟩, q H2 Gr.refl r2.ds _ _ _ (wd_range (by rw [sizeLine_eq]; omega)) (fun _ _ z => z.elim) (fun _ _ z => z.elim)⟩
      · exact q.elim
    | _ => exact q.elim
  | _ => exact q.elim
end
end Tk
set_option linter.all false
set_option Elab.async false
set_option maxRecDepth 100000
set_option maxHeartbeats 1000000
/-! TkEnz: enumerate(zip(list, list)). -/
namespace Tk
open PySem PySem.Spec PyProof.Rows L2
open Sem (wp)
/-- a zip between two turns; its last tuple may be out -/
def ZipSt (h : Heap) (z TI TO : Addr) : Prop := IsZip h z TI TO .none ∨ ∃ T f, IsZipHeld h z TI TO T f
abbrev ZipF (h : Heap) (z TI TO : Addr) (f0 f1 : Value) : Prop := h.get? z = some { cls := .type "zip", dict := none, data := .fields #[f0, f1, .bool false, .ref TI, .ref TO], slots := #[] }
/-- behind a turn -/
structure ZipNx (h0 h : Heap) (z TI TO i1 i2 l1 l2 : Addr) (k1 k2 : Nat) (x y : Value) : Prop where
  st : ZipSt h z TI TO
  to_ : ∃ a b, IsPair h TO a b
  fi : h.IsListIter i1 l1 (k1 + 1)
  se : h.IsListIter i2 l2 (k2 + 1)
  new : IsPair h h0.objs.size x y
  size : h.objs.size = h0.objs.size + 1
  keep : ∀ c o, c ≠ z → c ≠ TO → c ≠ i1 → c ≠ i2 → h0.get? c = some o → h.get? c = some o
section
variable {prog : Program} {w : World} {A : Around} {E : Value → Shared → Prop} {s : Shared}
theorem alive_no {T : Addr} {Q : Option Obj → Shared → Prop} (hT : s.heap.get? T = none) (h : Q none s) : wpAny (model prog w) A (loadIfAlive T) Q E s := by
  have h' : Q (s.heap.get? T) s := by rw [hT]; exact h
  exact fun _ _ _ => h'
theorem free_dead {z TI TO T : Addr} {f : Bool} {Q : Bool → Shared → Prop} (hz : IsZipHeld s.heap z TI TO T f) (hT : s.heap.get? T = none) (h : Q true s) : wpAny (model prog w) A (Builtin.SmallTypes.ownedTupleIsFree (.ref z)) Q E s := by
  unfold Builtin.SmallTypes.ownedTupleIsFree
  refine wpAny_bind (wpAny_field hz rfl (x := rawInt T) rfl ?_)
  show wpAny _ _ (loadIfAlive ((T : Int).toNat) >>= _) _ _ _
  rw [Int.toNat_natCast]
  refine wpAny_bind (alive_no hT ?_)
  simp only [Option.isNone_none, if_true]
  exact wpAny_pure h
/-- the last tuple is gone -/
theorem zip_dead_item {z TI TO T i1 i2 l1 l2 : Addr} {f : Bool} {k1 k2 : Nat} {xs ys : Array Value} {x y a b : Value} {Q : Value → Shared → Prop} (D : ZipApart z TI TO i1 i2 l1 l2)
    (hz : IsZipHeld s.heap z TI TO T f) (hT : s.heap.get? T = none) (hTI : IsPair s.heap TI (.ref i1) (.ref i2)) (hTO : IsPair s.heap TO a b)
    (h1 : s.heap.IsListIter i1 l1 k1) (h2 : s.heap.IsListIter i2 l2 k2) (hl1 : s.heap.IsList l1 xs) (hl2 : s.heap.IsList l2 ys) (hx : xs[k1]? = some x) (hy : ys[k2]? = some y)
    (hQ : ∀ h', ZipNx s.heap h' z TI TO i1 i2 l1 l2 k1 k2 x y → Q (.ref s.heap.objs.size) { s with heap := h' }) :
    wpAny (model prog w) A (Builtin.«zip.__next__» ⟨[.ref z], []⟩) (fun fin s' => ∃ v, fin = .done (.ret v) ∧ Q v s') E s := by
  show wpAny _ _ (field (.ref z) 2 >>= _) _ _ _
  refine wpAny_bind (wpAny_field hz rfl (x := .bool false) rfl ?_)
  show wpAny _ _ (field (.ref z) 3 >>= _) _ _ _
  refine wpAny_bind (wpAny_field hz rfl (x := .ref TI) rfl ?_)
  refine wpAny_bind (wpAny_seqItems hTI rfl ?_)
  show wpAny _ _ (Builtin.SmallTypes.ownedTupleIsFree (.ref z) >>= _) _ _ _
  refine wpAny_bind (free_dead hz hT ?_)
  simp only [if_true]
  refine wpAny_bind (wpAny_rule ?_)
  refine wpAny_bind (wpAny_field hz rfl (x := .ref TO) rfl ?_)
  refine wpAny_bind (wpAny_setField_rec hz (by simp) fun g1 z1 u1 => ?_)
  replace z1 : ZipF g1 z TI TO .ellipsis (.bool f) := z1
  refine wpAny_bind ?_
  simp only [List.zipIdx_cons, List.zipIdx_nil, List.forIn_cons, List.forIn_nil]
  refine wpAny_bind (wpAny_bind (wpAny_onRaise ?_))
  show wpAny _ _ (Builtin.SmallTypes.nextOf (.ref i1) >>= _) _ _ _
  refine wpAny_bind (wpAny_nextOf_list_item (h1.extBut u1.extBut D.i1z) (hl1.extBut u1.extBut D.l1z) hx fun g2 p2 u2 => wpAny_pure ?_)
  have t2 : IsPair g2 TO a b := u2.extBut _ _ D.TOi1 (u1.extBut _ _ D.TOz hTO)
  refine wpAny_bind (wpAny_seqItems t2 rfl ?_)
  refine wpAny_bind (wpAny_updateSeq_pair t2 fun g3 t3 u3 => ?_)
  replace t3 : IsPair g3 TO x b := t3
  refine wpAny_bind (wpAny_letGo (wpAny_pure ?_))
  refine wpAny_bind (wpAny_bind (wpAny_onRaise ?_))
  show wpAny _ _ (Builtin.SmallTypes.nextOf (.ref i2) >>= _) _ _ _
  refine wpAny_bind (wpAny_nextOf_list_item (((h2.extBut u1.extBut D.i2z).extBut u2.extBut D.i12.symm).extBut u3.extBut D.TOi2.symm)
    (((hl2.extBut u1.extBut D.l2z).extBut u2.extBut D.l2i1).extBut u3.extBut D.l2TO) hy fun g4 p4 u4 => wpAny_pure ?_)
  have t4 : IsPair g4 TO x b := u4.extBut _ _ D.TOi2 t3
  refine wpAny_bind (wpAny_seqItems t4 rfl ?_)
  refine wpAny_bind (wpAny_updateSeq_pair t4 fun g5 t5 u5 => ?_)
  replace t5 : IsPair g5 TO x y := t5
  refine wpAny_bind (wpAny_letGo (wpAny_pure (wpAny_pure ?_)))
  refine wpAny_bind (wpAny_seqItems t5 rfl ?_)
  refine wpAny_bind (wpAny_newTuple ?_)
  have sz : g5.objs.size = s.heap.objs.size := by rw [u5.1, u4.1, u3.1, u2.1, u1.1]
  have z5 : ZipF g5 z TI TO .ellipsis (.bool f) := u5.extBut _ _ D.TOz.symm (u4.extBut _ _ D.i2z.symm (u3.extBut _ _ D.TOz.symm (u2.extBut _ _ D.i1z.symm z1)))
  have kp : ∀ c o, c ≠ z → c ≠ TO → c ≠ i1 → c ≠ i2 → s.heap.get? c = some o → g5.get? c = some o := fun c o c1 c2 c3 c4 e =>
    u5.extBut _ _ c2 (u4.extBut _ _ c4 (u3.extBut _ _ c2 (u2.extBut _ _ c3 (u1.extBut _ _ c1 e))))
  have q1 : g5.IsListIter i1 l1 (k1 + 1) := ((p2.extBut u3.extBut D.TOi1.symm).extBut u4.extBut D.i12).extBut u5.extBut D.TOi1.symm
  have q2 : g5.IsListIter i2 l2 (k2 + 1) := p4.extBut u5.extBut D.TOi2.symm
  have zl : z < g5.objs.size := Heap.lt_size z5
  show wpAny _ _ (Builtin.SmallTypes.ownedTupleHandOut (.ref z) (.ref g5.objs.size) >>= _) _ _ _
  refine wpAny_bind ?_
  unfold Builtin.SmallTypes.ownedTupleHandOut
  have z6 : ZipF (g5.push { cls := .type "tuple", data := .seq #[x, y] }) z TI TO .ellipsis (.bool f) := Heap.get?_push_of_some _ z5
  refine wpAny_bind (wpAny_setField_rec z6 (by simp) fun g7 z7 u7 => ?_)
  replace z7 : ZipF g7 z TI TO (rawInt g5.objs.size) (.bool f) := z7
  refine wpAny_setField_rec z7 (by simp) fun g8 z8 u8 => ?_
  replace z8 : IsZipHeld g8 z TI TO g5.objs.size false := z8
  have up : ∀ c o, c ≠ z → g5.get? c = some o → g8.get? c = some o := fun c o c1 e => u8.extBut _ _ c1 (u7.extBut _ _ c1 (Heap.get?_push_of_some _ e))
  have n8 : IsPair g8 g5.objs.size x y := u8.extBut _ _ (Nat.ne_of_gt zl) (u7.extBut _ _ (Nat.ne_of_gt zl) (Heap.get?_push_size _ rfl))
  have s8 : g8.objs.size = g5.objs.size + 1 := by rw [u8.1, u7.1, Heap.size_push]
  rw [sz] at n8 s8
  refine wpAny_pure ⟨_, rfl, ?_⟩
  show Q (.ref g5.objs.size) _
  rw [sz]
  exact hQ g8 ⟨.inr ⟨_, _, z8⟩, ⟨_, _, up _ _ D.TOz t5⟩, q1.at fun o e => up _ o D.i1z e, q2.at fun o e => up _ o D.i2z e, n8, s8, fun c o c1 c2 c3 c4 e => up c o c1 (kp c o c1 c2 c3 c4 e)⟩
theorem zip_dead_end {z TI TO T i1 i2 l1 l2 : Addr} {f : Bool} {k1 k2 : Nat} {xs ys : Array Value} {a b : Value} {Q : Fin → Shared → Prop} (hh : A.handled = none) (D : ZipApart z TI TO i1 i2 l1 l2)
    (hz : IsZipHeld s.heap z TI TO T f) (hT : s.heap.get? T = none) (hTI : IsPair s.heap TI (.ref i1) (.ref i2)) (hTO : IsPair s.heap TO a b)
    (h1 : s.heap.IsListIter i1 l1 k1) (h2 : s.heap.IsListIter i2 l2 k2) (hl1 : s.heap.IsList l1 xs) (hl2 : s.heap.IsList l2 ys) (hend : xs[k1]? = none ∨ ys[k2]? = none)
    (hE : ∀ h' e, (∀ c o, c ≠ z → c ≠ TO → c ≠ i1 → c ≠ i2 → s.heap.get? c = some o → h'.get? c = some o) → (∃ o, h'.get? e = some o ∧ o.cls = .type "StopIteration") → E (.ref e) { s with heap := h' }) :
    wpAny (model prog w) A (Builtin.«zip.__next__» ⟨[.ref z], []⟩) Q E s := by
  show wpAny _ _ (field (.ref z) 2 >>= _) _ _ _
  refine wpAny_bind (wpAny_field hz rfl (x := .bool false) rfl ?_)
  show wpAny _ _ (field (.ref z) 3 >>= _) _ _ _
  refine wpAny_bind (wpAny_field hz rfl (x := .ref TI) rfl ?_)
  refine wpAny_bind (wpAny_seqItems hTI rfl ?_)
  show wpAny _ _ (Builtin.SmallTypes.ownedTupleIsFree (.ref z) >>= _) _ _ _
  refine wpAny_bind (free_dead hz hT ?_)
  simp only [if_true]
  refine wpAny_bind (wpAny_rule ?_)
  refine wpAny_bind (wpAny_field hz rfl (x := .ref TO) rfl ?_)
  refine wpAny_bind (wpAny_setField_rec hz (by simp) fun g1 z1 u1 => ?_)
  replace z1 : ZipF g1 z TI TO .ellipsis (.bool f) := z1
  refine wpAny_bind ?_
  simp only [List.zipIdx_cons, List.zipIdx_nil, List.forIn_cons, List.forIn_nil]
  refine wpAny_bind (wpAny_bind (wpAny_onRaise ?_))
  show wpAny _ _ (Builtin.SmallTypes.nextOf (.ref i1) >>= _) _ _ _
  cases hx : xs[k1]? with
  | none =>
    refine wpAny_bind (wpAny_nextOf_list_end hh (h1.extBut u1.extBut D.i1z) (hl1.extBut u1.extBut D.l1z) hx fun g2 e u2 he => ?_)
    obtain ⟨oe, hoe, hce⟩ := he
    have z2 : ZipF g2 z TI TO .ellipsis (.bool f) := u2 _ _ D.i1z.symm z1
    have ne : e ≠ z := fun q => by subst q; rw [z2] at hoe; cases hoe; simp at hce
    exact wpAny_setField_rec z2 (by simp) fun g3 _ u3 => hE g3 e (fun c o c1 _ c3 _ q => u3.extBut _ _ c1 (u2 _ _ c3 (u1.extBut _ _ c1 q))) ⟨oe, u3.extBut _ _ ne hoe, hce⟩
  | some x =>
    have hy : ys[k2]? = none := by rcases hend with h | h; rw [hx] at h; cases h; exact h
    refine wpAny_bind (wpAny_nextOf_list_item (h1.extBut u1.extBut D.i1z) (hl1.extBut u1.extBut D.l1z) hx fun g2 p2 u2 => wpAny_pure ?_)
    have t2 : IsPair g2 TO a b := u2.extBut _ _ D.TOi1 (u1.extBut _ _ D.TOz hTO)
    refine wpAny_bind (wpAny_seqItems t2 rfl ?_)
    refine wpAny_bind (wpAny_updateSeq_pair t2 fun g3 t3 u3 => ?_)
    refine wpAny_bind (wpAny_letGo (wpAny_pure ?_))
    refine wpAny_bind (wpAny_bind (wpAny_onRaise ?_))
    show wpAny _ _ (Builtin.SmallTypes.nextOf (.ref i2) >>= _) _ _ _
    refine wpAny_bind (wpAny_nextOf_list_end hh (((h2.extBut u1.extBut D.i2z).extBut u2.extBut D.i12.symm).extBut u3.extBut D.TOi2.symm)
      (((hl2.extBut u1.extBut D.l2z).extBut u2.extBut D.l2i1).extBut u3.extBut D.l2TO) hy fun g4 e u4 he => ?_)
    obtain ⟨oe, hoe, hce⟩ := he
    have z4 : ZipF g4 z TI TO .ellipsis (.bool f) := u4 _ _ D.i2z.symm (u3.extBut _ _ D.TOz.symm (u2.extBut _ _ D.i1z.symm z1))
    have ne : e ≠ z := fun q => by subst q; rw [z4] at hoe; cases hoe; simp at hce
    exact wpAny_setField_rec z4 (by simp) fun g5 _ u5 => hE g5 e (fun c o c1 c2 c3 c4 q => u5.extBut _ _ c1 (u4 _ _ c4 (u3.extBut _ _ c2 (u2.extBut _ _ c3 (u1.extBut _ _ c1 q))))) ⟨oe, u5.extBut _ _ ne hoe, hce⟩
/-- any zip between two turns -/
theorem zip_any_item {z TI TO i1 i2 l1 l2 : Addr} {k1 k2 : Nat} {xs ys : Array Value} {x y a b : Value} {Q : Value → Shared → Prop} (D : ZipApart z TI TO i1 i2 l1 l2)
    (hz : ZipSt s.heap z TI TO) (hTI : IsPair s.heap TI (.ref i1) (.ref i2)) (hTO : IsPair s.heap TO a b)
    (h1 : s.heap.IsListIter i1 l1 k1) (h2 : s.heap.IsListIter i2 l2 k2) (hl1 : s.heap.IsList l1 xs) (hl2 : s.heap.IsList l2 ys) (hx : xs[k1]? = some x) (hy : ys[k2]? = some y)
    (hQ : ∀ h', ZipNx s.heap h' z TI TO i1 i2 l1 l2 k1 k2 x y → Q (.ref s.heap.objs.size) { s with heap := h' }) :
    wpAny (model prog w) A (Builtin.SmallTypes.nextOf (.ref z)) Q E s := by
  have hTy : s.TypeIs (.ref z) "zip" := by
    rcases hz with hz | ⟨T, f, hz⟩
    · exact ⟨_, hz, rfl⟩
    · exact ⟨_, hz, rfl⟩
  unfold Builtin.SmallTypes.nextOf
  refine wpAny_bind (wpAny_callSpecial?_slot (name := Str.ofString "__next__") hTy F.slot_zip_next (wpAny_call_entry F.slot_zip_next hTy F.entry_zip_next ?_ (F.args_zip_next_1 _)))
  rcases hz with hz | ⟨T, f, hz⟩
  · exact zip_next_item D hz hTI hTO h1 h2 hl1 hl2 hx hy fun h' c1 c2 c3 c4 c5 c6 c7 => wpAny_pure (hQ h' ⟨.inr ⟨_, _, c1⟩, ⟨_, _, c2⟩, c3, c4, c5, c6, c7⟩)
  · cases hT : s.heap.get? T with
    | none => exact zip_dead_item D hz hT hTI hTO h1 h2 hl1 hl2 hx hy fun h' n => wpAny_pure (hQ h' n)
    | some oT =>
      exact zip_next_item_held D hz hT hTI h1 h2 hl1 hl2 hx hy fun h' c1 c3 c4 c5 c6 c7 => wpAny_pure (hQ h' ⟨.inr ⟨_, _, c1⟩, ⟨_, _, c7 _ _ D.TOz D.TOi1 D.TOi2 hTO⟩, c3, c4, c5, c6, fun c o e1 _ e3 e4 e => c7 c o e1 e3 e4 e⟩)
theorem zip_any_end {z TI TO i1 i2 l1 l2 : Addr} {k1 k2 : Nat} {xs ys : Array Value} {a b : Value} {Q : Value → Shared → Prop} (hh : A.handled = none) (D : ZipApart z TI TO i1 i2 l1 l2)
    (hz : ZipSt s.heap z TI TO) (hTI : IsPair s.heap TI (.ref i1) (.ref i2)) (hTO : IsPair s.heap TO a b)
    (h1 : s.heap.IsListIter i1 l1 k1) (h2 : s.heap.IsListIter i2 l2 k2) (hl1 : s.heap.IsList l1 xs) (hl2 : s.heap.IsList l2 ys) (hend : xs[k1]? = none ∨ ys[k2]? = none)
    (hE : ∀ h' e, (∀ c o, c ≠ z → c ≠ TO → c ≠ i1 → c ≠ i2 → s.heap.get? c = some o → h'.get? c = some o) → (∃ o, h'.get? e = some o ∧ o.cls = .type "StopIteration") → E (.ref e) { s with heap := h' }) :
    wpAny (model prog w) A (Builtin.SmallTypes.nextOf (.ref z)) Q E s := by
  have hTy : s.TypeIs (.ref z) "zip" := by
    rcases hz with hz | ⟨T, f, hz⟩
    · exact ⟨_, hz, rfl⟩
    · exact ⟨_, hz, rfl⟩
  unfold Builtin.SmallTypes.nextOf
  refine wpAny_bind (wpAny_callSpecial?_slot (name := Str.ofString "__next__") hTy F.slot_zip_next (wpAny_call_entry F.slot_zip_next hTy F.entry_zip_next ?_ (F.args_zip_next_1 _)))
  rcases hz with hz | ⟨T, f, hz⟩
  · exact zip_next_end hh D hz hTI hTO h1 h2 hl1 hl2 hend hE
  · cases hT : s.heap.get? T with
    | none => exact zip_dead_end hh D hz hT hTI hTO h1 h2 hl1 hl2 hend hE
    | some oT => exact zip_next_end_held hh D hz hT hTI h1 h2 hl1 hl2 hend fun h' e k => hE h' e fun c o e1 _ e3 e4 q => k c o e1 e3 e4 q
/-- enumerate over whatever nextOf gives -/
theorem enum_any_item {e it : Addr} {c : Int} {old : Value} {x : Value} {P : Heap → Prop} {Q : Option Value → Shared → Prop} (he : IsEnum s.heap e it c old)
    (hN : ∀ (A : Around) (E : Value → Shared → Prop) (Q : Value → Shared → Prop), (∀ h1, P h1 → Q x { s with heap := h1 }) → wpAny (model prog w) A (Builtin.SmallTypes.nextOf (.ref it)) Q E s)
    (hP : ∀ h1, P h1 → IsEnum h1 e it c old)
    (hQ : ∀ h1 h', P h1 → IsEnumOut h' e it (c + 1) x h1.objs.size → h'.get? h1.objs.size = some { cls := .type "tuple", data := .seq #[.int c s.toks, x] } → h'.objs.size = h1.objs.size + 1 →
      (∀ b o, b ≠ e → h1.get? b = some o → h'.get? b = some o) → Q (some (.ref h1.objs.size)) { s with heap := h', toks := s.toks + 1 }) :
    wpAny (model prog w) A (pyNext (.ref e)) Q E s := by
  have hTy : s.TypeIs (.ref e) "enumerate" := ⟨_, he, rfl⟩
  obtain ⟨hp, g, d, tk, os⟩ := s
  unfold pyNext
  refine wpAny_bind (wpAny_attempt (wpAny_callSpecial?_slot (name := Str.ofString "__next__") hTy F.slot_enumerate_next (wpAny_call_entry F.slot_enumerate_next hTy F.entry_enumerate_next ?_ (F.args_enumerate_next_1 _))))
  show wpAny _ _ (field (.ref e) 2 >>= _) _ _ _
  refine wpAny_bind (wpAny_field he rfl (x := .ref it) rfl ?_)
  refine wpAny_bind (hN _ _ _ fun g1 p1 => ?_)
  have e1 : IsEnum g1 e it c old := hP g1 p1
  show wpAny _ _ (field (.ref e) 3 >>= _) _ _ ⟨g1, g, d, tk, os⟩
  refine wpAny_bind (wpAny_field e1 rfl (x := rawInt c) rfl ?_)
  show wpAny _ _ (field (.ref e) 4 >>= _) _ _ ⟨g1, g, d, tk, os⟩
  refine wpAny_bind (wpAny_field e1 rfl (x := .none) rfl ?_)
  show wpAny _ _ (mkInt c >>= _) _ _ ⟨g1, g, d, tk, os⟩
  refine wpAny_bind (wpAny_mkInt ?_)
  show wpAny _ _ (setField (.ref e) 3 (rawInt (c + 1)) >>= _) _ _ ⟨g1, g, d, tk + 1, os⟩
  refine wpAny_bind (wpAny_setField_rec e1 (by simp) fun g2 e2 u2 => ?_)
  replace u2 : Heap.SameBut e g1 g2 := u2
  replace e2 : IsEnum g2 e it (c + 1) old := e2
  show wpAny _ _ (setField (.ref e) 4 .none >>= _) _ _ ⟨g2, g, d, tk + 1, os⟩
  refine wpAny_bind (wpAny_setField_rec e2 (by simp) fun g3 e3 u3 => ?_)
  replace u3 : Heap.SameBut e g2 g3 := u3
  replace e3 : IsEnum g3 e it (c + 1) old := e3
  show wpAny _ _ (newTuple [.int c tk, x] >>= _) _ _ ⟨g3, g, d, tk + 1, os⟩
  refine wpAny_bind (wpAny_newTuple ?_)
  have e4 : IsEnum (g3.push { cls := .type "tuple", data := .seq #[.int c tk, x] }) e it (c + 1) old := Heap.get?_push_of_some _ e3
  have sz : g3.objs.size = g1.objs.size := by rw [u3.1, u2.1]
  have el : e < g1.objs.size := Heap.lt_size e1
  generalize hg4 : g3.push { cls := .type "tuple", data := .seq #[.int c tk, x] } = g4 at e4
  have t4 : g4.get? g1.objs.size = some { cls := .type "tuple", data := .seq #[.int c tk, x] } := by rw [← hg4, ← sz]; exact Heap.get?_push_size _ rfl
  have s4 : g4.objs.size = g1.objs.size + 1 := by rw [← hg4, Heap.size_push, sz]
  have k4 : ∀ b o, b ≠ e → g1.get? b = some o → g4.get? b = some o := fun b o hb q => by rw [← hg4]; exact Heap.get?_push_of_some _ (u3.extBut b o hb (u2.extBut b o hb q))
  show wpAny _ _ (Builtin.SmallTypes.ownedTupleIsFree (.ref e) >>= _) _ _ ⟨g4, g, d, tk + 1, os⟩
  rw [sz]
  refine wpAny_bind ?_
  unfold Builtin.SmallTypes.ownedTupleIsFree
  refine wpAny_bind (wpAny_field e4 rfl (x := .none) rfl (wpAny_pure ?_))
  simp only [if_true]
  refine wpAny_bind (wpAny_rule ?_)
  refine wpAny_bind (wpAny_field e4 rfl (x := old) rfl ?_)
  refine wpAny_bind (wpAny_setField_rec e4 (by simp) fun g5 e5 u5 => ?_)
  replace u5 : Heap.SameBut e g4 g5 := u5
  replace e5 : IsEnum g5 e it (c + 1) x := e5
  show wpAny _ _ (Builtin.SmallTypes.ownedTupleHandOut (.ref e) (.ref g1.objs.size) >>= _) _ _ ⟨g5, g, d, tk + 1, os⟩
  refine wpAny_bind ?_
  unfold Builtin.SmallTypes.ownedTupleHandOut
  refine wpAny_bind (wpAny_setField_rec e5 (by simp) fun g6 e6 u6 => ?_)
  replace u6 : Heap.SameBut e g5 g6 := u6
  replace e6 : IsEnumOut g6 e it (c + 1) x g1.objs.size := e6
  refine wpAny_setField_rec e6 (by simp) fun g7 e7 u7 => ?_
  replace u7 : Heap.SameBut e g6 g7 := u7
  replace e7 : IsEnumOut g7 e it (c + 1) x g1.objs.size := e7
  refine wpAny_bind (wpAny_letGo (wpAny_pure ⟨_, rfl, wpAny_pure (hQ g1 g7 p1 e7 ?_ ?_ ?_)⟩))
  · exact u7.extBut _ _ (Nat.ne_of_gt el) (u6.extBut _ _ (Nat.ne_of_gt el) (u5.extBut _ _ (Nat.ne_of_gt el) t4))
  · rw [u7.1, u6.1, u5.1, s4]
  · exact fun b o hb q => u7.extBut b o hb (u6.extBut b o hb (u5.extBut b o hb (k4 b o hb q)))
theorem enum_any_end {e it : Addr} {c : Int} {old : Value} {P : Heap → Prop} {Q : Option Value → Shared → Prop} (he : IsEnum s.heap e it c old)
    (hN : ∀ (E : Value → Shared → Prop) (Q : Value → Shared → Prop), (∀ h1 x, P h1 → (∃ o, h1.get? x = some o ∧ o.cls = .type "StopIteration") → E (.ref x) { s with heap := h1 }) → wpAny (model prog w) A.in1 (Builtin.SmallTypes.nextOf (.ref it)) Q E s)
    (hQ : ∀ h1, P h1 → Q none { s with heap := h1 }) : wpAny (model prog w) A (pyNext (.ref e)) Q E s := by
  have hTy : s.TypeIs (.ref e) "enumerate" := ⟨_, he, rfl⟩
  unfold pyNext
  refine wpAny_bind (wpAny_attempt (wpAny_callSpecial?_slot (name := Str.ofString "__next__") hTy F.slot_enumerate_next
    (wpAny_call_entry F.slot_enumerate_next hTy F.entry_enumerate_next ?_ (F.args_enumerate_next_1 _))))
  show wpAny _ _ (field (.ref e) 2 >>= _) _ _ _
  refine wpAny_bind (wpAny_field he rfl (x := .ref it) rfl ?_)
  refine wpAny_bind (hN _ _ fun g1 x p1 hx => ?_)
  obtain ⟨o, ho, hc⟩ := hx
  refine wpAny_bind (wpAny_isInstance (T := "StopIteration") (b := true) ⟨o, ho, hc⟩ isSubtype_stop ?_)
  exact wpAny_pure (hQ _ p1)
/-- enumerate(a zip just made) -/
theorem meets_enum_zip (z TI TO : Addr) :
    Meets (Builtin.«enumerate.__new__» ⟨[.type "enumerate", .ref z], []⟩) (fun _ R s => IsZip s.heap z TI TO .none ∧
      R (.ok (.ret (.ref s.heap.objs.size))) { s with heap := s.heap.push { cls := .type "enumerate", data := .fields #[.none, .bool false, .ref z, rawInt 0, .none, .none] } }) :=
  .of_wp fun prog w A R s h => by
    obtain ⟨hp, g, d, tk, os⟩ := s
    obtain ⟨hl, h⟩ := h
    have hsub := sub_enumerate
    have hL : IsZip (Shared.heap ⟨hp, g, d, tk, os⟩) z TI TO .none := hl
    wp_walk using AutoSeq1.wpAny_loadPart' hl
    refine wpAny_stack_any fun st => wpAny_pure ?_
    split
    · rename_i c _ _ _ _ _
      cases (c == Value.type "enumerate")
      · wp_walk using AutoSeq1.wpAny_loadPart' hl, wpAny_pyIter_zip hL
        exact ⟨_, rfl, h⟩
      · wp_walk using AutoSeq1.wpAny_loadPart' hl, wpAny_pyIter_zip hL
        exact ⟨_, rfl, h⟩
    · wp_walk using AutoSeq1.wpAny_loadPart' hl, wpAny_pyIter_zip hL
      exact ⟨_, rfl, h⟩
theorem call_enum_zip {z TI TO : Addr} {Q : Value → Shared → Prop} (hz : IsZip s.heap z TI TO .none)
    (h : ∀ h', IsEnum h' s.heap.objs.size z 0 .none → h'.objs.size = s.heap.objs.size + 1 → (∀ b o, s.heap.get? b = some o → h'.get? b = some o) → Q (.ref s.heap.objs.size) { s with heap := h' }) :
    wpAny (model prog w) A (call (.type "enumerate") [.ref z]) Q E s := by
  refine callType_new F.called_enumerate (by decide) (F.typeCall_enumerate_1 _) (F.newCall_enumerate_1 _) (fun obj => F.args_object_init_2 obj _) F.entry_enumerate_new (meets_enum_zip z TI TO) ⟨hz, ?_⟩
  have he : IsEnum (s.heap.push { cls := .type "enumerate", data := .fields #[.none, .bool false, .ref z, rawInt 0, .none, .none] }) s.heap.objs.size z 0 .none := Heap.get?_push_size _ rfl
  exact ⟨⟨_, he, rfl⟩, h _ he (Heap.size_push ..) fun b o q => Heap.get?_push_of_some _ q⟩
end
/-- the lists at a and b as they stand at each turn, the items in new pairs, each with its number in a new pair -/
def Itez (K : PySem.W.Frag) (a b : Addr) : It :=
  ⟨fun i H => ∃ (xs ys : List V) (x y : V), SqL K H a xs ∧ SqL K H b ys ∧ xs[i]? = some x ∧ ys[i]? = some y,
    fun i H v H' => ∃ T U x y, v = .ref U ∧ H T = none ∧ upd H T (.tup [x, y]) U = none ∧ H' = upd (upd H T (.tup [x, y])) U (.tup [.int (i : Nat), .ref T]) ∧ (∀ xs, SqL K H a xs → xs[i]? = some x) ∧ ∀ ys, SqL K H b ys → ys[i]? = some y,
    fun i H => ∃ xs ys : List V, SqL K H a xs ∧ SqL K H b ys ∧ (xs.length ≤ i ∨ ys.length ≤ i)⟩
theorem turn_enz {P : Program} {w : World} {K : PySem.W.Frag} {elts : List Expr} {kk : Nat} {tpos : Pos} {a b e z TI TO i1 i2 : Addr} (D : ZipApart z TI TO i1 i2 a b) (ez : e ≠ z) (eI : e ≠ TI) (eO : e ≠ TO) (e1 : e ≠ i1) (e2 : e ≠ i2) :
    Turn P w K (.Tuple elts kk tpos) (Itez K a b) [e, z, TI, TO, i1, i2] e (fun i h => (∃ old, IsEnum h e z ((i : Nat) : Int) old) ∧ ZipSt h z TI TO ∧ IsPair h TI (.ref i1) (.ref i2) ∧ (∃ x y, IsPair h TO x y) ∧ h.IsListIter i1 a i ∧ h.IsListIter i2 b i) where
  mem := by simp
  obj := fun i h st c hc => by
    obtain ⟨⟨old, he⟩, hz, hTI, ⟨x, y, hTO⟩, ⟨o1, q1, _, d1⟩, ⟨o2, q2, _, d2⟩⟩ := st
    have e' : c = e ∨ c = z ∨ c = TI ∨ c = TO ∨ c = i1 ∨ c = i2 := by simpa using hc
    rcases e' with q | q | q | q | q | q
    · rw [q]; exact ⟨_, he, fun v q => nomatch q⟩
    · rw [q]
      rcases hz with hz | ⟨T, f, hz⟩
      · exact ⟨_, hz, fun v q => nomatch q⟩
      · exact ⟨_, hz, fun v q => nomatch q⟩
    · rw [q]; exact ⟨_, hTI, fun v q => nomatch q⟩
    · rw [q]; exact ⟨_, hTO, fun v q => nomatch q⟩
    · rw [q]; exact ⟨o1, q1, fun v q => by rw [d1] at q; cases q⟩
    · rw [q]; exact ⟨o2, q2, fun v q => by rw [d2] at q; cases q⟩
  keep := fun i h h' st k => by
    obtain ⟨⟨old, he⟩, hz, hTI, ⟨x, y, hTO⟩, h1, h2⟩ := st
    refine ⟨⟨old, k e (by simp) _ he⟩, ?_, k TI (by simp) _ hTI, ⟨x, y, k TO (by simp) _ hTO⟩, h1.at fun o q => k i1 (by simp) o q, h2.at fun o q => k i2 (by simp) o q⟩
    rcases hz with hz | ⟨T, f, hz⟩
    · exact .inl (k z (by simp) _ hz)
    · exact .inr ⟨T, f, k z (by simp) _ hz⟩
  item := by
    intro X hP hw hK hc i pins s σ H E I hf st hg
    subst hP hw hK
    obtain ⟨⟨old, he⟩, hz, hTI, ⟨x0, y0, hTO⟩, h1, h2⟩ := st
    obtain ⟨xs, ys, x, y, hqx, hqy, hx, hy⟩ := hg
    obtain ⟨its, rv, p, _⟩ := I.list hqx
    obtain ⟨its2, rv2, p2, _⟩ := I.list hqy
    obtain ⟨u, hu, ru⟩ := rv.get hx
    obtain ⟨u2, hu2, ru2⟩ := rv2.get hy
    have el : e < s.heap.objs.size := Heap.lt_size he
    have lt : ∀ c ∈ [e, z, TI, TO, i1, i2], c < s.heap.objs.size := fun c hcm => by
      have e' : c = e ∨ c = z ∨ c = TI ∨ c = TO ∨ c = i1 ∨ c = i2 := by simpa using hcm
      rcases e' with q | q | q | q | q | q
      · rw [q]; exact el
      · rw [q]
        rcases hz with hz | ⟨T, f, hz⟩
        · exact Heap.lt_size hz
        · exact Heap.lt_size hz
      · rw [q]; exact Heap.lt_size hTI
      · rw [q]; exact Heap.lt_size hTO
      · rw [q]; obtain ⟨_, q1, _⟩ := h1; exact Heap.lt_size q1
      · rw [q]; obtain ⟨_, q2, _⟩ := h2; exact Heap.lt_size q2
    refine enum_any_item (P := fun h1 => ZipNx s.heap h1 z TI TO i1 i2 a b i i u u2) (x := .ref s.heap.objs.size) he
      (fun A E Q k => zip_any_item D hz hTI hTO h1 h2 p.isList p2.isList (x := u) (y := u2) (by simpa using hu) (by simpa using hu2) k) (fun g1 n => n.keep _ _ ez eO e1 e2 he) fun g1 g2 n ho hU hsz hk => ?_
    refine ⟨_, rfl, wpAny_letOwnedTupleGo_enum (s := { s with heap := g2, toks := s.toks + 1 }) ho fun g3 he' sb => ?_⟩
    have e1l : e < g1.objs.size := by rw [n.size]; exact Nat.lt_succ_of_lt el
    -- the inner pair
    have new1 : ObjOk X.prog X.w (upd H s.heap.objs.size (.tup [x, y])) g1 s.heap.objs.size (.tup [x, y]) :=
      ⟨by show 2 ≤ sizeLine; decide, [u, u2], .cons ru (.cons ru2 .nil), ⟨_, n.new, rfl, _, rfl⟩⟩
    have I1 : Inv X pins σ (upd H s.heap.objs.size (.tup [x, y])) { s with heap := g1 } :=
      I.turnedNew (t' := s.toks) (ch := [e, z, TI, TO, i1, i2]) (fun c o hb q => n.keep c o (fun q' => hb (by simp [q'])) (fun q' => hb (by simp [q'])) (fun q' => hb (by simp [q'])) (fun q' => hb (by simp [q'])) q) hf (Nat.le_refl _) new1
    have hf1 : ∀ c ∈ [e], FpOk X pins (upd H s.heap.objs.size (.tup [x, y])) c := fun c hcm => by
      have q : c = e := by simpa using hcm
      subst q
      obtain ⟨f0, f1⟩ := hf c (by simp)
      exact ⟨by rw [upd_ne (Nat.ne_of_lt el)]; exact f0, f1⟩
    have hU2 : g3.get? g1.objs.size = some { cls := .type "tuple", data := .seq #[.int i s.toks, .ref s.heap.objs.size] } := (sb.2 _ (Nat.ne_of_gt e1l)).trans hU
    have new2 : ObjOk X.prog X.w (upd (upd H s.heap.objs.size (.tup [x, y])) g1.objs.size (.tup [.int (i : Nat), .ref s.heap.objs.size])) g3 g1.objs.size (.tup [.int (i : Nat), .ref s.heap.objs.size]) :=
      ⟨by show 2 ≤ sizeLine; decide, [.int i s.toks, .ref s.heap.objs.size], .cons ⟨_, rfl⟩ (.cons rfl .nil), ⟨_, hU2, rfl, _, rfl⟩⟩
    have I2 := I1.turnedNew (t' := s.toks + 1) (ch := [e]) (h' := g3) (fun c o hb q => (sb.2 c (fun q' => hb (by simp [q']))).trans (hk c o (fun q' => hb (by simp [q'])) q)) hf1 (Nat.le_refl _) new2
    have up : ∀ c o, c ≠ e → g1.get? c = some o → g3.get? c = some o := fun c o ne q => (sb.2 c ne).trans (hk c o ne q)
    refine ⟨.ref g1.objs.size, _, I2, rfl, ⟨_, _, x, y, rfl, I.hok.fresh (Nat.le_refl _), ?_, rfl, fun l hl => by rw [I.list_inj hl hqx]; exact hx, fun l hl => by rw [I.list_inj hl hqy]; exact hy⟩, ⟨⟨.ref s.heap.objs.size, ?_⟩, ?_, ?_, ?_, ?_, ?_⟩, fun c hcm => ?_⟩
    · exact I1.hok.fresh (Nat.le_refl _)
    · have q : ((i + 1 : Nat) : Int) = (i : Int) + 1 := by omega
      rw [q]; exact he'
    · rcases n.st with q | ⟨T, f, q⟩
      · exact .inl (up z _ (Ne.symm ez) q)
      · exact .inr ⟨T, f, up z _ (Ne.symm ez) q⟩
    · exact up TI _ (Ne.symm eI) (n.keep _ _ D.TIz D.TITO D.TIi1 D.TIi2 hTI)
    · obtain ⟨x1, y1, q⟩ := n.to_
      exact ⟨x1, y1, up TO _ (Ne.symm eO) q⟩
    · exact n.fi.at fun o q => up i1 o (Ne.symm e1) q
    · exact n.se.at fun o q => up i2 o (Ne.symm e2) q
    · have hl := lt c hcm
      have hl1 : c < g1.objs.size := by rw [n.size]; exact Nat.lt_succ_of_lt hl
      rw [upd_ne (Nat.ne_of_lt hl1), upd_ne (Nat.ne_of_lt hl)]
      exact (hf c hcm).1
  done := by
    intro X hP hw hK hc i pins s σ H E I hf st hg
    subst hP hw hK
    obtain ⟨⟨old, he⟩, hz, hTI, ⟨x0, y0, hTO⟩, h1, h2⟩ := st
    obtain ⟨xs, ys, hqx, hqy, hend⟩ := hg
    obtain ⟨its, rv, p, _⟩ := I.list hqx
    obtain ⟨its2, rv2, p2, _⟩ := I.list hqy
    have l1 := rv.length
    have l2 := rv2.length
    have hn : its.toArray[i]? = none ∨ its2.toArray[i]? = none := by
      rcases hend with q | q
      · exact .inl (by simp; omega)
      · exact .inr (by simp; omega)
    refine enum_any_end (P := fun h' => ∀ c o, c ≠ z → c ≠ TO → c ≠ i1 → c ≠ i2 → s.heap.get? c = some o → h'.get? c = some o) he (fun E Q k => zip_any_end (I.ok.hd hc) D hz hTI hTO h1 h2 p.isList p2.isList hn k) fun g1 hk => ?_
    exact ⟨rfl, I.turnedL (t' := s.toks) (ch := [e, z, TI, TO, i1, i2]) (fun c o hb q => hk c o (fun q' => hb (by simp [q'])) (fun q' => hb (by simp [q'])) (fun q' => hb (by simp [q'])) (fun q' => hb (by simp [q'])) q) hf⟩
  self := fun A i s Q E st h => let ⟨⟨_, he⟩, _⟩ := st; wpAny_pyIter_enum he h
def iEnz (K : PySem.W.Frag) (ta : TA) : TI := fun σ H R => ta σ H fun vs H1 => ∃ a b xs ys, vs = [.ref a, .ref b] ∧ SqL K H1 a xs ∧ SqL K H1 b ys ∧ R (Itez K a b) H1
theorem pi_enz {X : Cx} {e e2 : Expr} {ta : TA} {p p2 pos pos2 tpos : Pos} {elts : List Expr} {kk : Nat} (hg : Gl X "enumerate") (hm : X.mg "enumerate" = none) (hg2 : Gl X "zip") (hm2 : X.mg "zip" = none) (ha : PA X [e, e2] ta)
    (hs : starEach [e, e2] X.env = (false, eval e X.env) :: starEach [e2] X.env := by rfl) (hpl : (backTo pos2 (starEach [e2] X.env)).any (·.1) = false := by rfl) :
    PI X (.Tuple elts kk tpos) (.Call (.Name "enumerate" p) [.Call (.Name "zip" p2) [e, e2] [] pos2] [] pos) (iEnz X.K ta) := by
  refine ⟨fun pins s σ H R I h => ?_⟩
  refine Call_ (ld_blt I hg hm boot_enumerate (PyProof.Rows.callWith_type1 ?_ rfl rfl))
  refine PyProof.Rows.args_cons ?_ rfl
  refine Call_ (ld_blt I hg2 hm2 PyProof.Rows.boot_zip (PyProof.Rows.callWith_type1 (thn (ha.run pos2 pins s σ H _ I h) fun us s1 ⟨vs, H1, I1, r1, q1⟩ => ?_) hs hpl))
  obtain ⟨a, b, xs, ys, ex, hqx, hqy, q⟩ := q1
  subst ex
  cases r1 with
  | cons r rr =>
    cases rr with
    | cons r' rr =>
      cases rr
      cases r
      cases r'
      obtain ⟨its, rv, p1, _⟩ := I1.list hqx
      obtain ⟨its2, rv2, p2, _⟩ := I1.list hqy
      refine call_zip_2 p1.isList p2.isList fun g1 hz hTI hTO h1 h2 hsz hk => ?_
      refine PyProof.Rows.args_nil ?_
      refine call_enum_zip (s := { s1 with heap := g1 }) hz fun g2 he hsz2 hk2 => wpAny_pyIter_enum he ?_
      have sz : g1.objs.size = s1.heap.objs.size + 5 := hsz
      have I2 : Inv X pins σ H1 { s1 with heap := g2 } := I1.kept (t' := s1.toks) fun c o e => hk2 c o (hk c o e)
      refine ⟨g1.objs.size, [g1.objs.size, s1.heap.objs.size + 4, s1.heap.objs.size + 2, s1.heap.objs.size + 3, s1.heap.objs.size, s1.heap.objs.size + 1], _, _, H1, rfl, I2,
        turn_enz (PySem.W.ktu_apart s1.heap.objs.size a b p1.lt p2.lt) (by show (g1.objs.size : Nat) ≠ s1.heap.objs.size + 4; omega) (by show (g1.objs.size : Nat) ≠ s1.heap.objs.size + 2; omega) (by show (g1.objs.size : Nat) ≠ s1.heap.objs.size + 3; omega) (by show (g1.objs.size : Nat) ≠ s1.heap.objs.size; omega) (by show (g1.objs.size : Nat) ≠ s1.heap.objs.size + 1; omega),
        ⟨⟨.none, he⟩, .inl (hk2 _ _ hz), hk2 _ _ hTI, ⟨_, _, hk2 _ _ hTO⟩, h1.at fun o q => hk2 _ o q, h2.at fun o q => hk2 _ o q⟩, fun c hcm => ?_, q⟩
      have e' : c = g1.objs.size ∨ c = s1.heap.objs.size + 4 ∨ c = s1.heap.objs.size + 2 ∨ c = s1.heap.objs.size + 3 ∨ c = s1.heap.objs.size ∨ c = s1.heap.objs.size + 1 := by simpa using hcm
      have hle : s1.heap.objs.size ≤ c := by
        rcases e' with z | z | z | z | z | z
        · rw [z, sz]; exact Nat.le_add_right _ _
        · rw [z]; exact Nat.le_add_right _ _
        · rw [z]; exact Nat.le_add_right _ _
        · rw [z]; exact Nat.le_add_right _ _
        · rw [z]; exact Nat.le_refl _
        · rw [z]; exact Nat.le_add_right _ _
      exact I1.fpOk hle (I1.hok.fresh hle)
end Tk
set_option linter.all false
set_option Elab.async false
set_option maxRecDepth 100000
set_option maxHeartbeats 1000000
namespace Tk
open PySem L2
section
variable {F : Tab} {W : WS} {X : Cx} {c : Ctx} {a b : Expr} {e ea eb ec : E} {pos p : Pos} {K : PySem.W.Frag}
theorem enumD_get : ∀ (ds : List D) (n i : Nat), (enumD n ds)[i]? = ds[i]?.map fun d => .tuple [.int ((n + i : Nat) : Int), d]
  | [], n, i => by simp [enumD]
  | d :: ds, n, 0 => by simp [enumD]
  | d :: ds, n, i + 1 => by
    simp only [enumD, List.getElem?_cons_succ]
    rw [enumD_get ds (n + 1) i]
    congr 1
    funext d
    rw [show n + 1 + i = n + (i + 1) by omega]
theorem enumD_len : ∀ (ds : List D) (n : Nat), (enumD n ds).length = ds.length
  | [], n => rfl
  | d :: ds, n => by simp [enumD, enumD_len ds]
theorem pairs_get : ∀ (ds es : List D) (i : Nat), (pairs ds es)[i]? = match ds[i]?, es[i]? with
    | some d, some e => some (.tuple [d, e])
    | _, _ => none
  | [], es, i => by simp [pairs]
  | d :: ds, [], i => by
    simp only [pairs, List.getElem?_nil]
    cases (d :: ds)[i]? <;> rfl
  | d :: ds, e :: es, 0 => by simp [pairs]
  | d :: ds, e :: es, i + 1 => by
    simp only [pairs, List.getElem?_cons_succ]
    exact pairs_get ds es i
theorem pairs_len : ∀ (ds es : List D), (pairs ds es).length = min ds.length es.length
  | [], es => by simp [pairs]
  | d :: ds, [] => by simp [pairs]
  | d :: ds, e :: es => by simp [pairs, pairs_len ds es]
/-- a new pair -/
theorem dat_pair {H : Hp} {B : Addr → Prop} {T : Addr} {x y : V} {d e : D} (hn : H T = none) (hB : ∀ a, B a → ∃ m : Mu, H a = some m.o) (h1 : Dat K H B x d) (h2 : Dat K H B y e) : Dat K (upd H T (.tup [x, y])) B (.ref T) (.tuple [d, e]) := by
  have mo : ∀ a o, H a = some o → Seq o → ¬ B a → upd H T (.tup [x, y]) a = some o ∧ ¬ B a := fun a o e _ n => ⟨by rw [upd_ne (ne_of_none e hn)]; exact e, n⟩
  simp only [Dat]
  refine ⟨T, [x, y], rfl, .inl ⟨upd_same, fun z => ?_⟩, DatL.cons (Dat.mono mo d h1) (DatL.one (Dat.mono mo e h2))⟩
  obtain ⟨xs, q⟩ := hB T z
  rw [hn] at q; cases q
theorem ex_new {H : Hp} {T : Addr} {o : HO} (hn : H T = none) : Ex H (upd H T o) := fun a u e => by rw [upd_ne (ne_of_none e hn)]; exact e
theorem wd_enum {q : Addr} {xs : List V} {ds : List D} (hl : xs.length = ds.length) (bd : xs.length ≤ sizeLine) : WD K (Ite K q) (fun a o => a = q ∧ o = .lst xs) (fun v d => ∃ i : Nat, xs[i]? = some v ∧ ds[i]? = some d) (enumD 0 ds) := by
  have sq : ∀ {H : Hp}, (∀ a o, a = q ∧ o = .lst xs → H a = some o) → SqL K H q xs := fun h => SqL.of (h q _ ⟨rfl, rfl⟩)
  refine ⟨fun i H hi h => ?_, fun H h => ⟨xs, sq h, by rw [enumD_len]; omega⟩, fun i H x H' B hi h t hB y => ?_, by rw [enumD_len]; omega⟩
  · rw [enumD_len] at hi
    exact ⟨xs, xs[i]'(by omega), sq h, by simp [show i < xs.length by omega]⟩
  · rw [enumD_len] at hi
    obtain ⟨T, u, rfl, hn, rfl, y⟩ := y
    refine ⟨ex_new hn, _, by rw [enumD_get, List.getElem?_eq_getElem hi]; rfl, ?_⟩
    rw [Nat.zero_add]
    exact dat_pair hn hB (by simp [Dat]) (t u _ ⟨i, y xs (sq h), by simp [hi]⟩)
theorem wd_zip {q1 q2 : Addr} {xs ys : List V} {ds es : List D} (hl : xs.length = ds.length) (hl2 : ys.length = es.length) (bd : xs.length ≤ sizeLine) : WD K (Itz K q1 q2) (fun a o => (a = q1 ∧ o = .lst xs) ∨ (a = q2 ∧ o = .lst ys)) (fun v d => (∃ i : Nat, xs[i]? = some v ∧ ds[i]? = some d) ∨ (∃ i : Nat, ys[i]? = some v ∧ es[i]? = some d)) (pairs ds es) := by
  have sq : ∀ {H : Hp}, (∀ a o, (a = q1 ∧ o = .lst xs) ∨ (a = q2 ∧ o = .lst ys) → H a = some o) → SqL K H q1 xs ∧ SqL K H q2 ys := fun h => ⟨SqL.of (h q1 _ (.inl ⟨rfl, rfl⟩)), SqL.of (h q2 _ (.inr ⟨rfl, rfl⟩))⟩
  refine ⟨fun i H hi h => ?_, fun H h => ⟨xs, ys, (sq h).1, (sq h).2, by rw [pairs_len]; omega⟩, fun i H x H' B hi h t hB y => ?_, by rw [pairs_len]; omega⟩
  · rw [pairs_len] at hi
    exact ⟨xs, ys, xs[i]'(by omega), ys[i]'(by omega), (sq h).1, (sq h).2, by simp [show i < xs.length by omega], by simp [show i < ys.length by omega]⟩
  · rw [pairs_len] at hi
    obtain ⟨T, u, w, rfl, hn, rfl, y1, y2⟩ := y
    have h1 : i < ds.length := by omega
    have h2 : i < es.length := by omega
    refine ⟨ex_new hn, _, by rw [pairs_get, List.getElem?_eq_getElem h1, List.getElem?_eq_getElem h2], ?_⟩
    exact dat_pair hn hB (t u _ (.inl ⟨i, y1 xs (sq h).1, by simp [h1]⟩)) (t w _ (.inr ⟨i, y2 ys (sq h).2, by simp [h2]⟩))
theorem wd_enz {q1 q2 : Addr} {xs ys : List V} {ds es : List D} (hl : xs.length = ds.length) (hl2 : ys.length = es.length) (bd : xs.length ≤ sizeLine) : WD K (Itez K q1 q2) (fun a o => (a = q1 ∧ o = .lst xs) ∨ (a = q2 ∧ o = .lst ys)) (fun v d => (∃ i : Nat, xs[i]? = some v ∧ ds[i]? = some d) ∨ (∃ i : Nat, ys[i]? = some v ∧ es[i]? = some d)) (enumD 0 (pairs ds es)) := by
  have sq : ∀ {H : Hp}, (∀ a o, (a = q1 ∧ o = .lst xs) ∨ (a = q2 ∧ o = .lst ys) → H a = some o) → SqL K H q1 xs ∧ SqL K H q2 ys := fun h => ⟨SqL.of (h q1 _ (.inl ⟨rfl, rfl⟩)), SqL.of (h q2 _ (.inr ⟨rfl, rfl⟩))⟩
  refine ⟨fun i H hi h => ?_, fun H h => ⟨xs, ys, (sq h).1, (sq h).2, by rw [enumD_len, pairs_len]; omega⟩, fun i H x H' B hi h t hB y => ?_, by rw [enumD_len, pairs_len]; omega⟩
  · rw [enumD_len, pairs_len] at hi
    exact ⟨xs, ys, xs[i]'(by omega), ys[i]'(by omega), (sq h).1, (sq h).2, by simp [show i < xs.length by omega], by simp [show i < ys.length by omega]⟩
  · rw [enumD_len, pairs_len] at hi
    obtain ⟨T, U, u, w, rfl, hn, hn2, rfl, y1, y2⟩ := y
    have h1 : i < ds.length := by omega
    have h2 : i < es.length := by omega
    refine ⟨fun a o e => ex_new hn2 a o (ex_new hn a o e), _, by rw [enumD_get, pairs_get, List.getElem?_eq_getElem h1, List.getElem?_eq_getElem h2]; rfl, ?_⟩
    rw [Nat.zero_add]
    have hB1 : ∀ a, B a → ∃ m : Mu, upd H T (.tup [u, w]) a = some m.o := fun a z => by
      obtain ⟨m, e⟩ := hB a z
      exact ⟨m, ex_new hn a _ e⟩
    exact dat_pair hn2 hB1 (by simp [Dat]) (dat_pair hn hB (t u _ (.inl ⟨i, y1 xs (sq h).1, by simp [h1]⟩)) (t w _ (.inr ⟨i, y2 ys (sq h).2, by simp [h2]⟩)))
theorem i_en {elts : List Expr} {kk : Nat} {tpos : Pos} (G : Good c F X W) (hg : c.G.lookup ("enumerate" : Str) = none) (gl : Gl X "enumerate") (ha : PE X a (tD F X.K W ea)) (ns : starEach [a] X.env = [(false, eval a X.env)]) :
    PI X (.Tuple elts kk tpos) (.Call (.Name "enumerate" p) [a] [] pos) (tI F X.K W (.en ea)) := by
  refine PI.imp (pi_enum gl (G.bl _ (by decide +kernel) hg) (PA.len (pa_cons ha pa_nil ns)) ns) fun σ H R ⟨Φ, ρ, δ, r, cl, q⟩ => ?_
  simp only [evI] at q
  refine PostG.bind r q fun v H1 d1 δ1 r1 g1 q1 _ q len => ?_
  cases d1 with
  | list ds =>
    simp only [Dat2] at q1
    obtain ⟨pp, xs, rfl, e1, n1, l1⟩ := q1
    exact ⟨pp, xs, rfl, SqL.of e1, q H1 Gr.refl r1.ds _ _ _ (wd_enum l1.length (len.1 pp xs (SqL.of e1))) (fun a o ⟨h1, h2⟩ => by subst h1; subst h2; exact ⟨e1, n1⟩) (DatL.pairs (av_full (by simpa [escI] using cl) l1))⟩
  | _ => exact q.elim
theorem i_zp {elts : List Expr} {kk : Nat} {tpos : Pos} (G : Good c F X W) (hg : c.G.lookup ("zip" : Str) = none) (gl : Gl X "zip") (ha : PE X a (tD F X.K W ea)) (hb : PE X b (tD F X.K W eb)) (ns : NoStar X [a, b]) :
    PI X (.Tuple elts kk tpos) (.Call (.Name "zip" p) [a, b] [] pos) (tI F X.K W (.zp ea eb)) := by
  refine PI.imp (pi_zip gl (G.bl _ (by decide +kernel) hg) (PA.len (pa_cons ha (pa_cons hb pa_nil ns.2.1) ns.1)) ns.1 (noStar_any ns.2)) fun σ H R ⟨Φ, ρ, δ, r, cl, q⟩ => ?_
  simp only [evI] at q
  refine PostG.bind r q fun v H1 d1 δ1 r1 g1 q1 _ q => PostG.bind r1 q fun v2 H2 d2 δ2 r2 g2 q2 _ q len => ?_
  have q1 := g2.dat2 (r1.drA _) (r1.drA _) q1
  cases d1 with
  | list ds =>
    cases d2 with
    | list es =>
      simp only [Dat2] at q1 q2
      obtain ⟨pp, xs, rfl, e1, n1, l1⟩ := q1
      obtain ⟨p2, ys, rfl, e2, n2, l2⟩ := q2
      have cl1 : clear ρ (esc1 ea) = true := by simp only [escI, clear, List.all_append, Bool.and_eq_true] at cl; exact cl.1
      have cl2 : clear ρ (esc1 eb) = true := by simp only [escI, clear, List.all_append, Bool.and_eq_true] at cl; exact cl.2
      refine ⟨pp, p2, xs, ys, rfl, SqL.of e1, SqL.of e2, q H2 Gr.refl r2.ds _ _ _ (wd_zip l1.length l2.length (len.1 pp xs (SqL.of e1))) (fun a o h => ?_) (fun v d h => ?_)⟩
      · rcases h with ⟨h1, h2⟩ | ⟨h1, h2⟩
        · subst h1; subst h2
          exact ⟨e1, fun z => n1 (z.mono fun i hi => by simp only [escR, List.mem_append]; exact .inl hi)⟩
        · subst h1; subst h2
          exact ⟨e2, fun z => n2 (z.mono fun i hi => by simp only [escR, List.mem_append]; exact .inr hi)⟩
      · rcases h with h | h
        · exact DatL.pairs (av_full cl1 l1) v d h
        · exact DatL.pairs (av_full cl2 l2) v d h
    | _ => exact q.elim
  | _ => exact q.elim

theorem i_ez {elts : List Expr} {kk : Nat} {tpos pos2 p2 : Pos} (G : Good c F X W) (hg0 : c.G.lookup ("enumerate" : Str) = none) (gl0 : Gl X "enumerate") (hg : c.G.lookup ("zip" : Str) = none) (gl : Gl X "zip") (ha : PE X a (tD F X.K W ea)) (hb : PE X b (tD F X.K W eb)) (ns : NoStar X [a, b]) :
    PI X (.Tuple elts kk tpos) (.Call (.Name "enumerate" p2) [.Call (.Name "zip" p) [a, b] [] pos] [] pos2) (tI F X.K W (.ez ea eb)) := by
  refine PI.imp (pi_enz gl0 (G.bl _ (by decide +kernel) hg0) gl (G.bl _ (by decide +kernel) hg) (PA.len (pa_cons ha (pa_cons hb pa_nil ns.2.1) ns.1)) ns.1 (noStar_any ns.2)) fun σ H R ⟨Φ, ρ, δ, r, cl, q⟩ => ?_
  simp only [evI] at q
  refine PostG.bind r q fun v H1 d1 δ1 r1 g1 q1 _ q => PostG.bind r1 q fun v2 H2 d2 δ2 r2 g2 q2 _ q len => ?_
  have q1 := g2.dat2 (r1.drA _) (r1.drA _) q1
  cases d1 with
  | list ds =>
    cases d2 with
    | list es =>
      simp only [Dat2] at q1 q2
      obtain ⟨pp, xs, rfl, e1, n1, l1⟩ := q1
      obtain ⟨p2, ys, rfl, e2, n2, l2⟩ := q2
      have cl1 : clear ρ (esc1 ea) = true := by simp only [escI, clear, List.all_append, Bool.and_eq_true] at cl; exact cl.1
      have cl2 : clear ρ (esc1 eb) = true := by simp only [escI, clear, List.all_append, Bool.and_eq_true] at cl; exact cl.2
      refine ⟨pp, p2, xs, ys, rfl, SqL.of e1, SqL.of e2, q H2 Gr.refl r2.ds _ _ _ (wd_enz l1.length l2.length (len.1 pp xs (SqL.of e1))) (fun a o h => ?_) (fun v d h => ?_)⟩
      · rcases h with ⟨h1, h2⟩ | ⟨h1, h2⟩
        · subst h1; subst h2
          exact ⟨e1, fun z => n1 (z.mono fun i hi => by simp only [escR, List.mem_append]; exact .inl hi)⟩
        · subst h1; subst h2
          exact ⟨e2, fun z => n2 (z.mono fun i hi => by simp only [escR, List.mem_append]; exact .inr hi)⟩
      · rcases h with h | h
        · exact DatL.pairs (av_full cl1 l1) v d h
        · exact DatL.pairs (av_full cl2 l2) v d h
    | _ => exact q.elim
  | _ => exact q.elim

/-! ### comprehensions -/
/-- a list that is avoided is written -/
theorem Rel.updA {Φ : Fm} {σ : L2.St} {H : Hp} {ρ : Env} {δ : DS} {q : Addr} {xs : List V} (r : Rel K Φ σ H ρ δ) (hA : Φ.A q) (hd : ¬ Dr Φ q) (h0 : Φ.H0 q = none ∨ Φ.W q) : Rel K Φ σ (upd H q (.lst xs)) ρ δ := by
  have go : ∀ a o, H a = some o → Seq o → ¬ Av Φ σ ρ a → upd H q (.lst xs) a = some o ∧ ¬ Av Φ σ ρ a := fun a o e _ n => ⟨by rw [upd_ne (fun z => n (.inl (by rw [z]; exact hA)))]; exact e, n⟩
  refine ⟨r.len, fun i d e => ?_, fun i d e => ?_, r.inj, r.dr, ?_, fun a z => ?_, fun a o e n z => ?_, fun v d t => Dat.mono go d (r.tm v d t), fun a o cc => ?_⟩
  · obtain ⟨v, e1, e2⟩ := r.va i d e
    exact ⟨v, e1, Dat.mono go d e2⟩
  · obtain ⟨a, e1, n, e2, e4⟩ := r.ow i d e
    exact ⟨a, e1, n, e2.mono (fun o h => by rw [upd_ne (fun z => n (by rw [z]; exact hA))]; exact h) go, e4⟩
  · have d := r.ds
    unfold DsOk at d ⊢
    split at d
    · trivial
    · rename_i e
      refine ⟨?_, ?_, d.2.2⟩
      · rw [upd_ne (fun z => hd ⟨_, _, e, .inl z.symm⟩)]; exact d.1
      · rw [upd_ne (fun z => hd ⟨_, _, e, .inr z.symm⟩)]; exact d.2.1
    · exact d.elim
  · by_cases e : a = q
    · exact ⟨.l xs, by rw [e]; exact upd_same⟩
    · rw [upd_ne e]; exact r.al a z
  · rw [upd_ne (fun w => ?_)]
    · exact r.fr a o e n z
    · rcases h0 with h0 | h0
      · rw [w, h0] at e; cases e
      · exact n (by rw [w]; exact h0)
  · obtain ⟨e, n⟩ := r.ce a o cc
    exact ⟨by rw [upd_ne (fun z => n (.inl (by rw [z]; exact hA)))]; exact e, n⟩
theorem foldedSet {it : Expr} {env : PySem.Env} (h : ∀ es k q, it ≠ .Set es k q) : ∀ x, foldedSetIterable it env x = pure x := fun x => by
  cases it <;> first | rfl | exact absurd rfl (h _ _ _)
theorem wfalse : Takes X (WXof X fun _ _ _ => False) := takes0.imp fun c d σ H ⟨_, _, _, _, _, h⟩ => h
theorem noEr_bind {α β : Type} {r : R α} {f : α → DS → R β} : noEr ((noEr r).bind f) = noEr (r.bind f) := by
  cases r <;> rfl
/-- [elt for target in iter if cond] -/
theorem d_co {elt tg iter : Expr} {ifs : List Expr} {scope : Scope} {own : List (Str × Nat)} {t : Tg} {it : I} {ee cc : E} (G : Good c F X W) (hi : PI X tg iter (tI F X.K W it)) (ok : BlkOk X.N X.env.scope scope own) (hown : own.map (·.2) = t.ixs)
    (hg : ∀ (s : Shared) (H : Hp) (C : Addr) (cl : List (Str × Addr)) (fp : List Addr), PG (X.blk s H scope (compEnvC scope cl C X.env) fp) tg (gT X.K t))
    (ht : ∀ (s : Shared) (H : Hp) (C : Addr) (cl : List (Str × Addr)) (fp : List Addr), PTs (X.blk s H scope (compEnvC scope cl C X.env) fp) ifs (tT F X.K (fun _ _ _ => False) cc))
    (he : ∀ (s : Shared) (H : Hp) (C : Addr) (cl : List (Str × Addr)) (fp : List Addr), PE (X.blk s H scope (compEnvC scope cl C X.env) fp) elt (tD F X.K (fun _ _ _ => False) ee))
    (hs : ∀ x, foldedSetIterable iter X.env x = pure x) :
    ∀ σ H Q, tD F X.K W (.co ee t it cc) σ H Q → tLc (tI F X.K W it) (gT X.K t) (tT F X.K (fun _ _ _ => False) cc) (tD F X.K (fun _ _ _ => False) ee) (own.map (·.2)) σ H Q := by
  intro σ H Q ⟨Φ, ρ, δ, r, q⟩
  rw [hown]
  simp only [ev] at q
  split at q
  · rename_i hcl
    rw [Bool.and_eq_true] at hcl
    obtain ⟨cl1, cl2⟩ := hcl
    refine ⟨Φ, ρ, δ, r, cl1, ?_⟩
    cases qi : evI F it ρ δ with
    | er e δ1 => rw [qi] at q; exact q
    | bad => rw [qi] at q; exact q
    | ok xs δ1 =>
      rw [qi] at q
      intro H1 g1 ds1 J C T wd hC hT D hD
      have r1 := r.grow g1 ds1
      have q := PostG.step q g1
      simp only [R.bind_ok] at q
      let fc : Env → DS → R Bool := fun ρ δ => (ev F cc ρ δ).bind fun x δ => R.ofOpt δ (asBool x)
      let fe : Env → DS → R Tk.D := fun ρ δ => ev F ee ρ δ
      let ΦD : Fm := { Φ with A := fun a => Φ.A a ∨ a = D }
      let X1 : List Nat := esc1 (.co ee t it cc)
      have nDr : ¬ Dr ΦD D := fun z => by
        have z' : Dr Φ D := z
        obtain ⟨ys, e⟩ := r1.al D (z'.A r1.ds)
        rw [hD] at e; cases e
      have h0 : Φ.H0 D = none ∨ Φ.W D := by
        cases e : Φ.H0 D with
        | none => exact .inl rfl
        | some o =>
          refine .inr (Classical.byContradiction fun nW => ?_)
          have := r1.fr D o e nW nDr
          rw [hD] at this; cases this
      have dh1 : H D = none := g1.freeR r ds1 hD
      -- the invariant
      let Pv : Nat → Hp → Prop := fun i H' => ∃ δi acc ys, Gr Φ H1 H' ∧ Rel X.K ΦD (L2.wipe σ t.ixs) H' (wipeE ρ t.ixs) δi ∧ H' D = some (.lst acc) ∧ acc.length ≤ i ∧ DatL X.K H' (fun a => a = D ∨ AvX Φ σ ρ X1 a) acc ys ∧
        PostG Φ σ H1 W (PE1 X.K Φ σ H ρ (.co ee t it cc) Q) ((noEr (compL t fc fe (wipeE ρ t.ixs) (xs.drop i) δi)).bind fun zs δ => .ok (.list (ys ++ zs)) δ)
      have stands : ∀ {H'}, Gr Φ H1 H' → ∀ a o, C a o → H' a = some o := fun g a o h => g a o (hC a o h).1 fun z => (hC a o h).2 (r1.drA _ a z)
      have wk : Walk J xs.length (fun H => ∀ a o, C a o → H a = some o) J.yld := ⟨fun i H hi h => wd.go i H hi h, fun H h => wd.stop H h, fun _ _ _ _ _ _ y => y⟩
      refine lc_it wk Pv ?_ (fun i H' _ ⟨_, _, _, g, _⟩ => stands g) (fun i x H' H2 hi p y => ?_) fun H' p => ?_
      · refine ⟨δ1, [], [], Gr.new hD, (r1.hide hD).wipe t.ixs, upd_same, Nat.le_refl _, DatL.nil, ?_⟩
        have : PostG Φ σ H1 W (PE1 X.K Φ σ H ρ (.co ee t it cc) Q) ((noEr (compL t fc fe (wipeE ρ t.ixs) (xs.drop 0) δ1)).bind fun zs δ => .ok (.list ([] ++ zs)) δ) := by
          simpa only [List.drop_zero, List.nil_append] using q
        exact this
      · obtain ⟨δi, acc, ys, g, ri, eD, hlen, la, qi⟩ := p
        -- what is avoided within
        have av1 : ∀ a, Av ΦD (L2.wipe σ t.ixs) (wipeE ρ t.ixs) a → Av Φ σ ρ a ∨ a = D := fun a z => by
          rcases z with z | ⟨j, d, e1, e2⟩
          · exact z.imp .inl id
          · obtain ⟨e1, n⟩ := wipeE_ow _ e1
            rw [wipe_get, if_neg (fun w => n w.1)] at e2
            exact .inl (.inr ⟨j, d, e1, e2⟩)
        have tm : ∀ v d, T v d → Dat X.K H' (Av ΦD (L2.wipe σ t.ixs) (wipeE ρ t.ixs)) v d := fun v d h =>
          Dat.mono (fun a o e _ n => ⟨g a o e fun z => n (r1.drV a z), fun z => (av1 a z).elim n (ne_of_none e hD)⟩) d (hT v d h)
        obtain ⟨ex, d, hd, dx⟩ := wd.yld i H' x H2 _ hi (stands g) tm (fun a z => Av.lst ri z) y
        have hdrop : xs.drop i = d :: xs.drop (i + 1) := by
          rw [List.drop_eq_getElem_cons hi]
          rw [List.getElem?_eq_getElem hi] at hd
          injection hd with hd
          rw [hd]
        rw [hdrop] at qi
        have ri2 : Rel X.K ΦD (L2.wipe σ t.ixs) H2 (wipeE ρ t.ixs) δi := ri.grow0 ex
        simp only [compL] at qi
        cases hb : bindT (wipeE ρ t.ixs) t d with
        | none => rw [hb] at qi; exact qi.elim
        | some ρ1 =>
          rw [hb] at qi
          simp only at qi
          refine ⟨ΦD, wipeE ρ t.ixs, δi, d, ρ1, ri2, dx, hb, fun σ2 rσ so sa => ⟨wipe_only so, ?_⟩⟩
          obtain ⟨bl, bo⟩ := bindT_only t hb
          -- the test
          refine ⟨ΦD, ρ1, δi, rσ, ?_⟩
          have qi2 := qi
          cases ht : evB F cc ρ1 δi with
          | er e δ2 =>
            have : fc ρ1 δi = .er e δ2 := ht
            rw [this] at qi2; exact qi2.elim
          | bad =>
            have : fc ρ1 δi = .bad := ht
            rw [this] at qi2; exact qi2.elim
          | ok bb δ2 =>
            have hfc : fc ρ1 δi = .ok bb δ2 := ht
            rw [hfc] at qi2
            simp only [R.bind_ok] at qi2
            intro H3 g3 ds3
            have g3' : Gr Φ H2 H3 := g3
            have qi3 := qi2
            have r3 := rσ.grow g3 ds3
            have e3D : H3 D = some (.lst acc) := g3 D _ (ex D _ eD) nDr
            have gall : Gr Φ H' H3 := (ex.gr (Φ := Φ)).trans g3'
            have la3 : DatL X.K H3 (fun a => a = D ∨ AvX Φ σ ρ X1 a) acc ys := Gr.datL gall (fun a z => .inr (r1.drA _ a z)) la
            cases bb with
            | false =>
              simp only [Bool.false_eq_true, if_false] at qi3 ⊢
              exact ⟨δ2, acc, ys, g.trans gall, ri2.grow g3 ds3, e3D, Nat.le_succ_of_le hlen, la3, qi3⟩
            | true =>
              simp only [if_true] at qi3 ⊢
              refine ⟨ΦD, ρ1, δ2, r3, ?_⟩
              cases hv : ev F ee ρ1 δ2 with
              | er e δ3 =>
                have : fe ρ1 δ2 = .er e δ3 := hv
                rw [this] at qi3; exact qi3.elim
              | bad =>
                have : fe ρ1 δ2 = .bad := hv
                rw [this] at qi3; exact qi3.elim
              | ok yd δ3 =>
                have hfe : fe ρ1 δ2 = .ok yd δ3 := hv
                rw [hfe] at qi3
                simp only [R.bind_ok] at qi3
                intro H4 g4 ds4 v dat _
                have g4' : Gr Φ H3 H4 := g4
                have e4D : H4 D = some (.lst acc) := g4 D _ e3D nDr
                have la4 : DatL X.K H4 (fun a => a = D ∨ AvX Φ σ ρ X1 a) acc ys := Gr.datL g4' (fun a z => .inr (r1.drA _ a z)) la3
                have ri4 : Rel X.K ΦD (L2.wipe σ t.ixs) H4 (wipeE ρ t.ixs) δ3 := (ri2.grow g3 ds3).grow g4 ds4
                have dv : Dat X.K H4 (fun a => a = D ∨ AvX Φ σ ρ X1 a) v yd := by
                  refine Dat.mono (fun a o e _ n => ⟨e, fun z => n ?_⟩) yd dat.dat
                  rcases z with z | z | ⟨j, dj, nj, e1, e2⟩
                  · exact .inl (.inr z)
                  · exact .inl (.inl z)
                  · have njx : j ∉ t.ixs := fun w => by
                      have := List.all_eq_true.mp cl2 j w
                      simp [owned, e1] at this
                    refine .inr ⟨j, dj, fun w => nj ?_, ?_, ?_⟩
                    · simp only [X1, esc1, List.mem_filter]
                      exact ⟨w, by simpa using njx⟩
                    · rw [bo j njx, wipeE_get _ _ _ njx]; exact e1
                    · rw [so.2 j njx, wipe_get, if_neg (fun w => njx w.1)]; exact e2
                have st : ∀ a o, H4 a = some o → a ≠ D → upd H4 D (.lst (acc ++ [v])) a = some o := fun a o e n => by rw [upd_ne n]; exact e
                refine ⟨acc, e4D, Nat.lt_of_lt_of_le (Nat.lt_of_le_of_lt hlen hi) wd.bd, δ3, acc ++ [v], ys ++ [yd], fun a o e z => ?_, ri4.updA (.inr rfl) nDr h0, upd_same, by simpa using hlen, ?_, ?_⟩
                · exact st a o (((g.trans gall).trans g4') a o e z) (ne_of_none e hD)
                · exact DatL.mono (fun a o e _ n => ⟨st a o e fun z => n (.inl z), n⟩) _ (la4.append (DatL.one dv))
                · have eqn : (noEr ((compL t fc fe (wipeE ρ t.ixs) (xs.drop (i + 1)) δ3).bind fun ys δ3 => .ok (yd :: ys) δ3)).bind (fun zs δ => R.ok (PyData.list (ys ++ zs)) δ) = (noEr (compL t fc fe (wipeE ρ t.ixs) (xs.drop (i + 1)) δ3)).bind (fun zs δ => .ok (.list (ys ++ [yd] ++ zs)) δ) := by
                    cases compL t fc fe (wipeE ρ t.ixs) (xs.drop (i + 1)) δ3 with
                    | ok zs δ => simp [noEr]
                    | er _ _ => rfl
                    | bad => rfl
                  rw [eqn] at qi3
                  exact qi3
      · obtain ⟨δi, acc, ys, g, ri, eD, hlen, la, qi⟩ := p
        simp only [List.drop_length, compL, noEr, R.bind_ok, List.append_nil] at qi
        have dk : DsOk Φ H' δi := DsOk.back ri.ds r.ds
        have nA : ¬ AvX Φ σ ρ (esc (.co ee t it cc)) D := fun z => Av.fresh r dh1 z.av
        refine qi H' g dk _ ?_ fun _ _ => ?_
        · simp only [Dat2]
          exact ⟨D, acc, rfl, eD, nA, DatL.mono (fun a o e _ n => ⟨e, fun z => n (.inr z)⟩) _ la⟩
        · exact ⟨D, rfl, dh1, acc, eD, la⟩
  · exact q.elim
end
end Tk
set_option linter.all false
set_option Elab.async false
set_option maxRecDepth 100000
set_option maxHeartbeats 1000000
namespace Tk
open PySem L2
section
variable {F : Tab} {W : WS} {X : Cx} {c : Ctx}

theorem eqS {x y : Str} (h : decide (x = y) = false) : (x == y) = false := by
  have : ¬ x = y := of_decide_eq_false h
  exact beq_eq_false_iff_ne.mpr this
theorem slot_ok {x : Str} {i : Nat} (G : Good c F X W) (h : slotOf c x = some i) : X.N[i]? = some x ∧ Vis X.env.scope x ∧ (x == ("__debug__" : Str)) = false ∧ (x == ("__classdict__" : Str)) = false := by
  unfold slotOf at h
  split at h
  · rename_i hs
    simp only [Bool.and_eq_true, Bool.not_eq_true'] at hs
    obtain ⟨⟨h1, h2⟩, h3⟩ := hs
    refine ⟨by rw [G.N]; exact ixOf_get h, ?_, eqS h2, eqS h3⟩
    unfold seen at h1
    rw [G.sc]
    split at h1
    · exact .inl (by assumption)
    · exact .inr (.inl (by assumption))
    · exact .inr (.inr (by assumption))
    · cases h1
  · cases h
theorem gl_ok {x : Str} (G : Good c F X W) (h : isGl c x = true) : Gl X x ∧ (x == ("__debug__" : Str)) = false := by
  unfold isGl at h
  split at h
  · rename_i e
    simp only [Bool.not_eq_true'] at h
    refine ⟨?_, eqS h⟩
    show X.env.scope.names.lookup x = _
    rw [G.sc]; exact e
  · cases h
/-- within a comprehension -/
theorem Good.blk {scope : Scope} (G : Good c F X W) (hk : scope.kind = .function) (s : Shared) (H : Hp) (C : Addr) (cl : List (Str × Addr)) (fp : List Addr) : Good (blkCtx c scope) F (X.blk s H scope (compEnvC scope cl C X.env) fp) (fun _ _ _ => False) where
  N := G.N
  sc := by
    show relS scope X.env.scope = relS scope c.sc
    rw [G.sc]
  fn := rfl
  nd := G.nd
  calm := G.calm
  kind := hk
  un := G.un
  bl := G.bl
  co := G.co
  pu := G.pu
  pf := G.pf
  dw := G.dw
  mu := G.mu
  tk := wfalse
theorem zipArg_eq {e x y : Expr} (h : zipArg c e = some (x, y)) : ∃ p pos, e = .Call (.Name "zip" p) [x, y] [] pos ∧ isGl c ("zip" : Str) = true ∧ c.G.lookup ("zip" : Str) = none := by
  unfold zipArg at h
  split at h
  · split at h
    · rename_i hc
      simp only [Bool.and_eq_true, decide_eq_true_eq] at hc
      obtain ⟨⟨h1, h2⟩, h3⟩ := hc
      injection h with h; injection h with ha hb
      subst ha; subst hb; subst h1
      exact ⟨_, _, rfl, h2, by simpa using h3⟩
    · cases h
  · cases h
theorem cmpE_star {n : Nat} {e : Expr} {E' : E} (h : cmpE c n e = some E') : isStar e = false := by
  cases n with
  | zero => simp [cmpE] at h
  | succ n => cases e <;> first | rfl | (simp [cmpE] at h)
theorem star1 {e : Expr} {es : List Expr} {env : PySem.Env} (h : isStar e = false) : starEach (e :: es) env = (false, eval e env) :: starEach es env := by
  cases e <;> first | rfl | cases h
theorem cmpE_marks {n : Nat} {e : Expr} {E' : E} {o : CmpOp} (h : cmpE c n e = some E') : behindInMarks o e = false := by
  cases n with
  | zero => simp [cmpE] at h
  | succ n => cases e <;> first | rfl | (simp [cmpE] at h)
theorem cmpEs_ok (X : Cx) : ∀ {n : Nat} {es : List Expr} {l : Es}, cmpEs c n es = some l → NoStar X es ∧ l.len < n ∧ (es = [] → l = .nil)
  | 0, es, l, h => by simp [cmpEs] at h
  | n + 1, [], l, h => by
    simp [cmpEs] at h
    subst h
    exact ⟨trivial, by simp [Es.len], fun _ => rfl⟩
  | n + 1, e :: es, l, h => by
    simp only [cmpEs] at h
    split at h
    · rename_i a l' h1 h2
      injection h with h; subst h
      obtain ⟨g1, g2, _⟩ := cmpEs_ok X h2
      exact ⟨⟨star1 (cmpE_star h1), g1⟩, by simp [Es.len]; omega, fun z => by cases z⟩
    · cases h

/-- all of it, at one depth -/
structure AllOk (c : Ctx) (F : Tab) (n : Nat) : Prop where
  e : ∀ {X : Cx} {W : WS} {e : Expr} {E' : E}, Good c F X W → cmpE c n e = some E' → PE X e (tD F X.K W E') ∧ PT X e (tT F X.K W E')
  es : ∀ {X : Cx} {W : WS} {es : List Expr} {l : Es}, Good c F X W → cmpEs c n es = some l → PA X es (tDs F X.K W l)
  o : ∀ {X : Cx} {W : WS} {o : Option Expr} {E' : E}, Good c F X W → cmpO c n o = some E' → PO X o (tP F X.K W E')
  b : ∀ {X : Cx} {W : WS} {o : BoolOp} {vs : List Expr} {E' : E} {pos : Pos}, Good c F X W → cmpB c n o vs = some E' → PE X (.BoolOp o vs pos) (tD F X.K W E') ∧ PW X (.BoolOp o vs pos) (tT F X.K W E')
  i : ∀ {X : Cx} {W : WS} {tg it : Expr} {I' : I}, Good c F X W → cmpI c n tg it = some I' → PI X tg it (tI F X.K W I') ∧ ∀ x, foldedSetIterable it X.env x = pure x

theorem ok_es {n : Nat} (ih : AllOk c F n) {es : List Expr} {l : Es} (G : Good c F X W) (h : cmpEs c (n + 1) es = some l) : PA X es (tDs F X.K W l) := by
  cases es with
  | nil => simp [cmpEs] at h; subst h; exact a_nil
  | cons e es =>
    simp only [cmpEs] at h
    split at h
    · rename_i a l' h1 h2
      injection h with h; subst h
      exact a_cons (ih.e G h1).1 (ih.es G h2) (star1 (cmpE_star h1))
    · cases h
theorem ok_o {n : Nat} (ih : AllOk c F n) {o : Option Expr} {E' : E} (G : Good c F X W) (h : cmpO c (n + 1) o = some E') : PO X o (tP F X.K W E') := by
  cases o with
  | none => simp [cmpO] at h; subst h; exact o_none
  | some e =>
    simp only [cmpO] at h
    split at h
    · rename_i a h1
      split at h
      · cases h
      · rename_i hn
        injection h with h; subst h
        exact o_some (ih.e G h1).1 (by simpa using hn)
    · cases h
theorem ok_b {n : Nat} (ih : AllOk c F n) {o : BoolOp} {vs : List Expr} {E' : E} {pos : Pos} (G : Good c F X W) (h : cmpB c (n + 1) o vs = some E') : PE X (.BoolOp o vs pos) (tD F X.K W E') ∧ PW X (.BoolOp o vs pos) (tT F X.K W E') := by
  cases vs with
  | nil => simp [cmpB] at h
  | cons a vs =>
    cases vs with
    | nil =>
      simp only [cmpB] at h
      obtain ⟨h1, h2⟩ := ih.e G h
      refine ⟨pe_one h1, ?_⟩
      cases o with
      | And => exact pw_and1 h2
      | Or => exact pw_or1 h2
    | cons b vs =>
      simp only [cmpB] at h
      split at h
      · rename_i a' b' h1 h2
        injection h with h; subst h
        obtain ⟨g1, g2⟩ := ih.e G h1
        obtain ⟨g3, g4⟩ := ih.b (pos := pos) G h2
        cases o with
        | And => exact ⟨d_andN g1 g3, dw_and g2 g4⟩
        | Or => exact ⟨d_orN g1 g3, dw_or g2 g4⟩
      · cases h
theorem lk_none {x : Str} (h : (c.G.lookup x).isNone = true) : c.G.lookup x = none := by
  cases e : c.G.lookup x with
  | none => rfl
  | some _ => rw [e] at h; cases h
theorem isTup_eq {e : Expr} (h : isTup e = true) : ∃ es k q, e = .Tuple es k q := by
  cases e <;> first | exact ⟨_, _, _, rfl⟩ | cases h
theorem ok_i {n : Nat} (ih : AllOk c F n) {tg it : Expr} {I' : I} (G : Good c F X W) (h : cmpI c (n + 1) tg it = some I') : PI X tg it (tI F X.K W I') ∧ ∀ x, foldedSetIterable it X.env x = pure x := by
  have sq : ∀ {it : Expr} {I' : I}, (∀ es k q, it ≠ .Set es k q) → (cmpE c n it).map .sq = some I' → PI X tg it (tI F X.K W I') ∧ ∀ x, foldedSetIterable it X.env x = pure x := fun {it I'} hs h => by
    cases e : cmpE c n it with
    | none => rw [e] at h; cases h
    | some E' =>
      rw [e] at h
      injection h with h; subst h
      exact ⟨i_sq (ih.e G e).1, foldedSet hs⟩
  cases it with
  | Call f as ks pos =>
    cases f with
    | Name f p =>
      cases ks with
      | nil =>
        simp only [cmpI] at h
        split at h
        · rename_i hg
          rw [Bool.and_eq_true] at hg
          obtain ⟨g1, g2⟩ := gl_ok G hg.1
          have g3 := lk_none hg.2
          split at h
          · rename_i e; subst e
            split at h
            · rename_i a
              cases ea : cmpE c n a with
              | none => rw [ea] at h; cases h
              | some E' =>
                rw [ea] at h
                injection h with h; subst h
                exact ⟨i_r1 G g3 g1 (ih.e G ea).1 (star1 (cmpE_star ea)), fun _ => rfl⟩
            · rename_i a b
              split at h
              · rename_i a' b' h1 h2
                injection h with h; subst h
                exact ⟨i_r2 G g3 g1 (ih.e G h1).1 (ih.e G h2).1 ⟨star1 (cmpE_star h1), star1 (cmpE_star h2), trivial⟩, fun _ => rfl⟩
              · cases h
            · cases h
          · split at h
            · rename_i e; subst e
              split at h
              · rename_i ht
                split at h
                · rename_i a
                  obtain ⟨es, k, q, rfl⟩ := isTup_eq ht
                  cases za : zipArg c a with
                  | some xy =>
                    obtain ⟨x, y⟩ := xy
                    rw [za] at h
                    simp only at h
                    split at h
                    · rename_i x' y' h1 h2
                      injection h with h; subst h
                      obtain ⟨p2, pos2, rfl, hz1, hz2⟩ := zipArg_eq za
                      obtain ⟨z1, z2⟩ := gl_ok G hz1
                      exact ⟨i_ez G g3 g1 hz2 z1 (ih.e G h1).1 (ih.e G h2).1 ⟨star1 (cmpE_star h1), star1 (cmpE_star h2), trivial⟩, fun _ => rfl⟩
                    · cases h
                  | none =>
                  rw [za] at h
                  simp only at h
                  cases ea : cmpE c n a with
                  | none => rw [ea] at h; cases h
                  | some E' =>
                    rw [ea] at h
                    injection h with h; subst h
                    exact ⟨i_en G g3 g1 (ih.e G ea).1 (star1 (cmpE_star ea)), fun _ => rfl⟩
                · cases h
              · cases h
            · split at h
              · rename_i e; subst e
                split at h
                · rename_i ht
                  split at h
                  · rename_i a b
                    obtain ⟨es, k, q, rfl⟩ := isTup_eq ht
                    split at h
                    · rename_i a' b' h1 h2
                      injection h with h; subst h
                      exact ⟨i_zp G g3 g1 (ih.e G h1).1 (ih.e G h2).1 ⟨star1 (cmpE_star h1), star1 (cmpE_star h2), trivial⟩, fun _ => rfl⟩
                    · cases h
                  · cases h
                · cases h
              · exact sq (fun _ _ _ z => nomatch z) h
        · exact sq (fun _ _ _ z => nomatch z) h
      | cons _ _ => exact sq (fun _ _ _ z => nomatch z) (by simpa only [cmpI] using h)
    | _ => exact sq (fun _ _ _ z => nomatch z) (by simpa only [cmpI] using h)
  | Set _ _ _ => simp [cmpI] at h
  | _ => exact sq (fun _ _ _ z => nomatch z) (by simpa only [cmpI] using h)
end
end Tk
set_option linter.all false
set_option Elab.async false
set_option maxRecDepth 100000
set_option maxHeartbeats 1000000
namespace Tk
open PySem L2
section
variable {F : Tab} {W : WS} {X : Cx} {c : Ctx}
/-- value and test at once, where the test is by the value -/
theorem both {e : Expr} {E' : E} (h : PE X e (tD F X.K W E')) (he : ∀ whole, isTrue e X.env whole = (do let v ← whole; standAt e.pos; holding [v] (truthy v))) : PE X e (tD F X.K W E') ∧ PT X e (tT F X.K W E') := ⟨h, dt_val h he⟩
theorem plainIx {b : Expr} (h : isSlice b = false) : PlainIx b := fun o i => by
  cases b <;> first | rfl | cases h
theorem ok_m {n : Nat} (ih : AllOk c F n) {o : Expr} {nm : Str} {as : List Expr} {apos pos : Pos} {E' : E} (G : Good c F X W) (hl : (apos.endLine == pos.line) = true) (h : cmpM c (fun e => cmpE c n e) o nm as = some E') : PE X (.Call (.Attribute o nm apos) as [] pos) (tD F X.K W E') := by
  unfold cmpM at h
  split at h
  · rename_i a
    split at h
    · rename_i s j cp
      split at h
      · rename_i hnm
        subst hnm
        have h : Option.map (fun a => E.bu (BU.join s) (Es.cons a Es.nil)) (cmpE c n a) = some E' := h
        cases e : cmpE c n a with
        | none => rw [e] at h; cases h
        | some a' =>
          rw [e] at h
          injection h with h; subst h
          exact d_join (ih.e G e).1 (star1 (cmpE_star e)) hl
      · cases h
    · rename_i x px
      split at h
      · rename_i i a' h1 h2
        obtain ⟨s1, s2, s3, s4⟩ := slot_ok G h1
        split at h
        · cases h
        · rename_i hat
          have hat : atomE a' = true := by simpa using hat
          split at h
          · rename_i hnm
            subst hnm
            injection h with h; subst h
            exact d_split (d_v s1 s2 s3 s4) hat (ih.e G h2).1 (star1 (cmpE_star h2)) hl
          · split at h
            · rename_i hnm
              subst hnm
              injection h with h; subst h
              exact d_index G.un (d_v s1 s2 s3 s4) hat (ih.e G h2).1 (star1 (cmpE_star h2)) hl
            · cases h
      · cases h
    · cases h
  · rename_i a b
    split at h
    · rename_i x px
      split at h
      · rename_i hnm
        subst hnm
        split at h
        · rename_i i a' b' h1 h2 h3
          injection h with h; subst h
          obtain ⟨s1, s2, s3, s4⟩ := slot_ok G h1
          have n1 := star1 (es := [b]) (env := X.env) (cmpE_star h2)
          have n2 := star1 (es := []) (env := X.env) (cmpE_star h3)
          exact d_dg G.un (d_v s1 s2 s3 s4) (ih.e G h2).1 (ih.e G h3).1 ⟨rfl, by rw [n1, n2]; rfl, hl, by rw [n1, n2]; rfl⟩
        · cases h
      · cases h
    · cases h
  · cases h
theorem ok_call {n : Nat} (hn : n ≤ 1000) (ih : AllOk c F n) {f : Expr} {as : List Expr} {ks : List Keyword} {pos : Pos} {E' : E} (G : Good c F X W) (h : cmpE c (n + 1) (.Call f as ks pos) = some E') : PE X (.Call f as ks pos) (tD F X.K W E') := by
  simp only [cmpE] at h
  split at h
  · rename_i o nm apos
    split at h
    · rename_i hl
      exact ok_m ih G hl h
    · cases h
  · rename_i x p
    split at h
    · rename_i hg
      obtain ⟨g1, g2⟩ := gl_ok G hg
      split at h
      · rename_i hl
        split at h
        · injection h with h; subst h
          exact d_c0 G hl g1 g2
        · rename_i hne
          cases as with
          | nil => exact absurd rfl hne
          | cons a as =>
            cases e : cmpEs c n (a :: as) with
            | none => rw [e] at h; cases h
            | some l =>
              rw [e] at h
              injection h with h; subst h
              have hA := ih.es G e
              have hs := (cmpEs_ok X e).1
              cases l with
              | nil =>
                exfalso
                cases n with
                | zero => simp [cmpEs] at e
                | succ n =>
                  simp only [cmpEs] at e
                  split at e <;> cases e
              | cons e1 l => exact d_ca G hl g1 g2 hA hs
      · rename_i hl
        split at h
        · cases h
        · rename_i hne
          cases as with
          | nil => exact absurd rfl hne
          | cons a as =>
            cases e : cmpEs c n (a :: as) with
            | none => rw [e] at h; cases h
            | some l =>
              rw [e] at h
              injection h with h; subst h
              have hA := ih.es G e
              have hs := (cmpEs_ok X e).1
              cases l with
              | nil =>
                exfalso
                cases n with
                | zero => simp [cmpEs] at e
                | succ n =>
                  simp only [cmpEs] at e
                  split at e <;> cases e
              | cons e1 l => exact d_cf G hl g1 g2 hA hs
      · rename_i hl
        split at h
        · rename_i y py as
          split at h
          · rename_i i es h1 h2
            injection h with h; subst h
            obtain ⟨s1, s2, s3, s4⟩ := slot_ok G h1
            exact d_dc G hl g1 g2 s1 s2 s3 s4 (ih.es G h2) (cmpEs_ok X h2).1
          · cases h
        · cases h
      · cases h
      · rename_i hl
        split at h
        · rename_i a
          split at h
          · rename_i b hr
            split at h
            · rename_i hx
              subst hx
              cases e : cmpE c n b with
              | none => rw [e] at h; cases h
              | some b' =>
                rw [e] at h
                injection h with h; subst h
                unfold rangeArg at hr
                split at hr
                · split at hr
                  · rename_i hc
                    simp only [Bool.and_eq_true, decide_eq_true_eq] at hc
                    injection hr with hr; subst hr
                    obtain ⟨⟨hc1, hc2⟩, hc3⟩ := hc
                    subst hc1
                    exact d_lrange G hl g1 (lk_none hc3) (gl_ok G hc2).1 (ih.e G e).1 (star1 (cmpE_star e))
                  · cases hr
                · cases hr
            · cases h
          · split at h
            · rename_i b hr
              split at h
              · rename_i hx
                subst hx
                cases e : cmpE c n b with
                | none => rw [e] at h; cases h
                | some b' =>
                  rw [e] at h
                  injection h with h; subst h
                  unfold setArg at hr
                  split at hr
                  · split at hr
                    · rename_i hc
                      simp only [Bool.and_eq_true, decide_eq_true_eq] at hc
                      injection hr with hr; subst hr
                      obtain ⟨⟨hc1, hc2⟩, hc3⟩ := hc
                      subst hc1
                      exact d_sset G hl g1 (lk_none hc3) (gl_ok G hc2).1 (ih.e G e).1 (star1 (cmpE_star e))
                    · cases hr
                  · cases hr
              · cases h
            · split at h
              · rename_i u a' h1 h2
                injection h with h; subst h
                exact d_bu1 G h1 hl g1 (ih.e G h2).1 (star1 (cmpE_star h2))
              · cases h
        · rename_i a b
          split at h
          · rename_i hx
            subst hx
            split at h
            · rename_i t q
              split at h
              · rename_i hc
                rw [Bool.and_eq_true] at hc
                split at h
                · rename_i t' a' h1 h2
                  injection h with h; subst h
                  exact d_isi G hl g1 h1 (lk_none hc.2) (gl_ok G hc.1).1 (ih.e G h2).1 (star1 (cmpE_star h2))
                · cases h
              · cases h
            · cases h
          · split at h
            · rename_i hx
              subst hx
              split at h
              · rename_i a' b' h1 h2
                injection h with h; subst h
                exact d_max2 G hl g1 (ih.e G h1).1 (ih.e G h2).1 ⟨star1 (cmpE_star h1), star1 (cmpE_star h2), trivial⟩
              · cases h
            · cases h
        · cases h
    · cases h
  · cases h
theorem ok_cmp {n : Nat} (ih : AllOk c F n) {a : Expr} {os : List CmpOp} {bs : List Expr} {pos : Pos} {E' : E} (G : Good c F X W) (h : cmpE c (n + 1) (.Compare a os bs pos) = some E') : PE X (.Compare a os bs pos) (tD F X.K W E') ∧ PT X (.Compare a os bs pos) (tT F X.K W E') := by
  simp only [cmpE] at h
  split at h
  · rename_i o b
    split at h
    · split at h
      · cases e : cmpE c n a with
        | none => rw [e] at h; cases h
        | some a' =>
          rw [e] at h
          injection h with h; subst h
          exact ⟨d_isn (ih.e G e).1, dt_isn (ih.e G e).1⟩
      · cases e : cmpE c n a with
        | none => rw [e] at h; cases h
        | some a' =>
          rw [e] at h
          injection h with h; subst h
          exact ⟨d_isb (ih.e G e).1, dt_isb (ih.e G e).1⟩
      · cases h
    · split at h
      · cases e : cmpE c n a with
        | none => rw [e] at h; cases h
        | some a' =>
          rw [e] at h
          injection h with h; subst h
          exact ⟨d_isnN (ih.e G e).1, dt_isnN (ih.e G e).1⟩
      · cases e : cmpE c n a with
        | none => rw [e] at h; cases h
        | some a' =>
          rw [e] at h
          injection h with h; subst h
          exact ⟨d_isbN (ih.e G e).1, dt_isbN (ih.e G e).1⟩
      · cases h
    · split at h
      · rename_i a' o' b' h1 h2 h3
        injection h with h; subst h
        exact ⟨d_cm h2 G.un (ih.e G h1).1 (ih.e G h3).1 (cmpE_marks h3), dt_cm h2 G.un (ih.e G h1).1 (ih.e G h3).1 (cmpE_marks h3)⟩
      · cases h
  · rename_i b d
    split at h
    · rename_i a' b' d' h1 h2 h3
      injection h with h; subst h
      exact ⟨d_ch (ih.e G h1).1 (ih.e G h2).1 (ih.e G h3).1, dt_ch (ih.e G h1).1 (ih.e G h2).1 (ih.e G h3).1⟩
    · cases h
  · cases h
theorem ok_sub {n : Nat} (ih : AllOk c F n) {a b : Expr} {pos : Pos} {E' : E} (G : Good c F X W) (h : cmpE c (n + 1) (.Subscript a b pos) = some E') : PE X (.Subscript a b pos) (tD F X.K W E') := by
  simp only [cmpE] at h
  split at h
  · rename_i lo hi q
    split at h
    · rename_i a' l' h' h1 h2 h3
      injection h with h; subst h
      exact d_sl (ih.e G h1).1 (ih.o G h2) (ih.o G h3)
    · cases h
  · cases e : cmpE c n a with
    | none => rw [e] at h; cases h
    | some a' =>
      rw [e] at h
      injection h with h; subst h
      exact d_rv (ih.e G e).1
  · split at h
    · cases h
    · rename_i hs
      split at h
      · rename_i a' b' h1 h2
        injection h with h; subst h
        exact d_ix G.un (ih.e G h1).1 (ih.e G h2).1 (plainIx (by simpa using hs))
      · cases h
theorem ok_lc {n : Nat} (ih : AllOk c F n) (ihb : ∀ sc, AllOk (blkCtx c sc) F n) {elt : Expr} {gs : List Comprehension} {scope : Scope} {pos : Pos} {E' : E} (G : Good c F X W) (h : cmpE c (n + 1) (.ListComp elt gs scope pos) = some E') :
    ∃ tg iter ifs own t it ee cc, gs = [⟨tg, iter, ifs, 0⟩] ∧ E' = .co ee t it cc ∧ BlkOk X.N X.env.scope scope own ∧ PI X tg iter (tI F X.K W it) ∧
      (∀ (s : Shared) (H : Hp) (C : Addr) (cl : List (Str × Addr)) (fp : List Addr), PG (X.blk s H scope (compEnvC scope cl C X.env) fp) tg (gT X.K t)) ∧
      (∀ (s : Shared) (H : Hp) (C : Addr) (cl : List (Str × Addr)) (fp : List Addr), PTs (X.blk s H scope (compEnvC scope cl C X.env) fp) ifs (tT F X.K (fun _ _ _ => False) cc)) ∧
      (∀ (s : Shared) (H : Hp) (C : Addr) (cl : List (Str × Addr)) (fp : List Addr), PE (X.blk s H scope (compEnvC scope cl C X.env) fp) elt (tD F X.K (fun _ _ _ => False) ee)) ∧
      (∀ x, foldedSetIterable iter X.env x = pure x) ∧
      ∀ σ H Q, tD F X.K W E' σ H Q → tLc (tI F X.K W it) (gT X.K t) (tT F X.K (fun _ _ _ => False) cc) (tD F X.K (fun _ _ _ => False) ee) (own.map (·.2)) σ H Q := by
  simp only [cmpE] at h
  split at h
  · rename_i tg iter ifs k
    split at h
    · rename_i hb
      simp only [Bool.and_eq_true, decide_eq_true_eq] at hb
      obtain ⟨hk, hb⟩ := hb
      subst hk
      have ok : BlkOk X.N X.env.scope scope (tgNames c.N n tg) := by rw [G.N, G.sc]; exact blkOk_by hb
      split at h
      · rename_i tg' it e' h1 h2 h3
        split at h
        · rename_i hx
          have hx := of_decide_eq_true hx
          obtain ⟨hi, hfs⟩ := ih.i G h2
          have GB := fun s H C cl fp => G.blk (scope := scope) ok.kind s H C cl fp
          have hg : ∀ (s : Shared) (H : Hp) (C : Addr) (cl : List (Str × Addr)) (fp : List Addr), PG (X.blk s H scope (compEnvC scope cl C X.env) fp) tg (gT X.K tg') := fun s H C cl fp =>
            (g_ok (GB s H C cl fp).N (GB s H C cl fp).sc (GB s H C cl fp).fn (GB s H C cl fp).nd (GB s H C cl fp).calm n).1 tg tg' h1
          have he : ∀ (s : Shared) (H : Hp) (C : Addr) (cl : List (Str × Addr)) (fp : List Addr), PE (X.blk s H scope (compEnvC scope cl C X.env) fp) elt (tD F X.K (fun _ _ _ => False) e') := fun s H C cl fp => ((ihb scope).e (GB s H C cl fp) h3).1
          split at h
          · injection h with h; subst h
            have ht : ∀ (s : Shared) (H : Hp) (C : Addr) (cl : List (Str × Addr)) (fp : List Addr), PTs (X.blk s H scope (compEnvC scope cl C X.env) fp) [] (tT F X.K (fun _ _ _ => False) (.k (.bool true))) := fun s H C cl fp =>
              ⟨fun pins s' σ H' Q I ⟨Φ, ρ, δ, r, q⟩ => pts_nil.run pins s' σ H' Q I (q H' Gr.refl r.ds)⟩
            exact ⟨tg, iter, [], _, tg', it, e', _, rfl, rfl, ok, hi, hg, ht, he, hfs, d_co G hi ok hx.symm hg ht he hfs⟩
          · rename_i i
            cases hc : cmpE (blkCtx c scope) n i with
            | none => rw [hc] at h; cases h
            | some i' =>
              rw [hc] at h
              injection h with h; subst h
              have ht : ∀ (s : Shared) (H : Hp) (C : Addr) (cl : List (Str × Addr)) (fp : List Addr), PTs (X.blk s H scope (compEnvC scope cl C X.env) fp) [i] (tT F X.K (fun _ _ _ => False) i') := fun s H C cl fp => pts_one ((ihb scope).e (GB s H C cl fp) hc).2
              exact ⟨tg, iter, [i], _, tg', it, e', _, rfl, rfl, ok, hi, hg, ht, he, hfs, d_co G hi ok hx.symm hg ht he hfs⟩
          · cases h
        · cases h
      · cases h
    · cases h
  · cases h
theorem ok_e {n : Nat} (hn : n ≤ 1000) (ih : AllOk c F n) (ihb : ∀ sc, AllOk (blkCtx c sc) F n) {e : Expr} {E' : E} (G : Good c F X W) (h : cmpE c (n + 1) e = some E') : PE X e (tD F X.K W E') ∧ PT X e (tT F X.K W E') := by
  cases e with
  | Constant k j pos =>
    simp only [cmpE] at h
    cases hk : cmpK k with
    | none => rw [hk] at h; cases h
    | some d =>
      rw [hk] at h
      injection h with h; subst h
      exact both (d_k hk) fun _ => rfl
  | Name x pos =>
    simp only [cmpE] at h
    split at h
    · rename_i i hs
      injection h with h; subst h
      obtain ⟨s1, s2, s3, s4⟩ := slot_ok G hs
      exact both (d_v s1 s2 s3 s4) fun _ => rfl
    · split at h
      · rename_i d hl
        split at h
        · rename_i hg
          injection h with h; subst h
          obtain ⟨g1, g2⟩ := gl_ok G hg
          obtain ⟨u, v, m1, m2, m3⟩ := G.co x d hl
          exact both (d_gl g1 m1 m2 g2 m3) fun _ => rfl
        · cases h
      · cases h
  | BinOp a o b pos =>
    simp only [cmpE] at h
    split at h
    · rename_i a' o' b' h1 h2 h3
      injection h with h; subst h
      have ha := (ih.e G h1).1
      have hb := (ih.e G h3).1
      refine both ?_ fun _ => rfl
      cases o <;> simp only [cmpBO, Option.some.injEq, reduceCtorEq] at h2 <;> subst h2
      · exact d_add ha hb
      · exact d_sub ha hb
      · exact d_mul ha hb
      · exact d_mod ha hb
      · exact d_pow ha hb
      · exact d_fdiv ha hb
    · cases h
  | UnaryOp o a pos =>
    simp only [cmpE] at h
    split at h
    · rename_i a' h1
      injection h with h; subst h
      exact both (d_neg (ih.e G h1).1) fun _ => rfl
    · rename_i a' h1
      injection h with h; subst h
      exact ⟨d_no (ih.e G h1).1, dt_no (ih.e G h1).2⟩
    · cases h
  | BoolOp o vs pos =>
    simp only [cmpE] at h
    obtain ⟨h1, h2⟩ := ih.b (pos := pos) G h
    exact ⟨h1, h2.pt⟩
  | Compare a os bs pos => exact ok_cmp ih G h
  | IfExp t a b pos =>
    simp only [cmpE] at h
    split at h
    · rename_i t' a' b' h1 h2 h3
      injection h with h; subst h
      exact ⟨d_ite (ih.e G h1).2 (ih.e G h2).1 (ih.e G h3).1, dt_ite (ih.e G h1).2 (ih.e G h2).2 (ih.e G h3).2⟩
    · cases h
  | Subscript a b pos => exact both (ok_sub ih G h) fun _ => rfl
  | Call f as ks pos => exact both (ok_call hn ih G h) fun _ => rfl
  | List es pos =>
    simp only [cmpE] at h
    cases e : cmpEs c n es with
    | none => rw [e] at h; cases h
    | some l =>
      rw [e] at h
      injection h with h; subst h
      have := (cmpEs_ok X e).2.1
      exact both (d_ls (ih.es G e) (by rw [sizeLine_eq]; omega)) fun _ => rfl
  | Tuple es k pos =>
    simp only [cmpE] at h
    cases e : cmpEs c n es with
    | none => rw [e] at h; cases h
    | some l =>
      rw [e] at h
      injection h with h; subst h
      have := (cmpEs_ok X e).2.1
      exact both (d_tu (ih.es G e) (by rw [sizeLine_eq]; omega)) fun _ => rfl
  | Dict ks vs pos =>
    simp only [cmpE] at h
    split at h
    · injection h with h; subst h
      exact both d_dn fun _ => rfl
    · split at h
      · rename_i k' v' h1 h2
        injection h with h; subst h
        exact both (d_d1 G.un (ih.e G h1).1 (ih.e G h2).1) fun _ => rfl
      · cases h
    · cases h
  | ListComp elt gs scope pos =>
    obtain ⟨tg, iter, ifs, own, t, it, ee, cc, rfl, _, ok, hi, hg, ht, he, hfs, imp⟩ := ok_lc ih ihb G h
    exact both (PE.imp (pe_lc G.calm G.nd hi ok hg ht he hfs) imp) fun _ => rfl
  | _ => simp [cmpE] at h
theorem allOk (F : Tab) : ∀ (n : Nat), n ≤ 1001 → ∀ c : Ctx, AllOk c F n
  | 0, _, c => ⟨fun _ h => by simp [cmpE] at h, fun _ h => by simp [cmpEs] at h, fun _ h => by simp [cmpO] at h, fun _ h => by simp [cmpB] at h, fun _ h => by simp [cmpI] at h⟩
  | n + 1, hn, c => by
    have ih := allOk F n (by omega)
    exact ⟨fun G h => ok_e (by omega) (ih c) (fun sc => ih _) G h, fun G h => ok_es (ih c) G h, fun G h => ok_o (ih c) G h, fun G h => ok_b (ih c) G h, fun G h => ok_i (ih c) G h⟩
end
end Tk
set_option linter.all false
set_option Elab.async false
set_option maxRecDepth 100000
set_option maxHeartbeats 1000000
namespace Tk
open PySem L2

/-- what is known at a def's end -/
def EndOk (Φ : Fm) (H : Hp) (δ : DS) : Prop := DsOk Φ H δ ∧ ∀ a o, Φ.H0 a = some o → ¬ Φ.W a → ¬ Dr Φ a → H a = some o
def PostS (K : PySem.W.Frag) (Φ : Fm) (W : WS) (Dn : Ends) (σ0 : L2.St) (Y : List Nat) : R Fl → Prop
  | .ok (.nx ρ') δ' => ∀ σ' H', Rel K Φ σ' H' ρ' δ' → SetsOnly σ0 σ' Y → Dn.nx σ' H'
  | .ok (.rt d) δ' => ∀ v H', EndOk Φ H' δ' → Dat K H' Φ.A v d → Dn.rt v H'
  | .er e δ' => ∀ σ' H', EndOk Φ H' δ' → W e σ' H'
  | .bad => False
def tS (F : Tab) (K : PySem.W.Frag) (W : WS) (s : S) : TS := fun Dn σ H => ∃ Φ ρ δ, Rel K Φ σ H ρ δ ∧ PostS K Φ W Dn σ (asg s) (exec F s ρ δ)
theorem PS.imp {X : Cx} {s : Stmt} {t t' : TS} (h : PS X s t) (i : ∀ D σ H, t' D σ H → t D σ H) : PS X s t' := ⟨fun pins s σ H D I q => h.run pins s σ H D I (i D σ H q)⟩
theorem PSs.imp {X : Cx} {s : List Stmt} {t t' : TS} (h : PSs X s t) (i : ∀ D σ H, t' D σ H → t D σ H) : PSs X s t' := ⟨fun pins s σ H D I q => h.run pins s σ H D I (i D σ H q)⟩
structure GoodS (c : Ctx) (F : Tab) (X : Cx) (W : WS) : Prop extends Good c F X W where
  po : PassesOwn (model X.prog X.w) X.A X.env X.xe
  ex : ∀ x, c.G.lookup x = some .ec → ∃ C, X.mg x = some (.ref C) ∧ PySem.W.excIn X.K C He.veBase "ValueError.__new__" = true ∧ PySem.W.keepIn X.K (.ref C) = true ∧ Raises X (.ref C)

section
variable {F : Tab} {W : WS} {X : Cx} {c : Ctx} {K : PySem.W.Frag} {Φ : Fm} {σ : L2.St} {H H1 : Hp} {ρ : Env} {δ δ1 : DS} {Dn : Ends} {σ0 : L2.St} {Y : List Nat}
theorem PostS.weak {σ1 : L2.St} {Y1 Y2 : List Nat} {r : R Fl} (h : PostS K Φ W Dn σ0 Y r) (s : SetsOnly σ0 σ1 Y1) (h1 : ∀ i ∈ Y1, i ∈ Y) (h2 : ∀ i ∈ Y2, i ∈ Y) : PostS K Φ W Dn σ1 Y2 r := by
  cases r with
  | ok f δ =>
    cases f with
    | nx ρ' => exact fun σ' H' r' so => h σ' H' r' ((s.mono h1).trans (so.mono h2))
    | rt d => exact h
  | er c δ => exact h
  | bad => exact h
theorem Rel.end_ (r : Rel K Φ σ H ρ δ) : EndOk Φ H δ := ⟨r.ds, r.fr⟩
/-- an expression first, then a statement's end -/
theorem PostS.bind {e : E} {f : D → DS → R Fl} {Q : VK} (r : Rel K Φ σ H ρ δ) (h : PostS K Φ W Dn σ0 Y ((ev F e ρ δ).bind f))
    (k : ∀ v H1 d δ1, Rel K Φ σ H1 ρ δ1 → Gr Φ H H1 → Dat2 K H1 (AvX Φ σ ρ (esc e)) (AvX Φ σ ρ (esc1 e)) v d → (fresh e = true → Fresh K Φ σ H H1 ρ (esc1 e) v d) → PostS K Φ W Dn σ0 Y (f d δ1) → Q v H1) : tD F K W e σ H Q := by
  refine ⟨Φ, ρ, δ, r, ?_⟩
  cases q : ev F e ρ δ with
  | ok d δ1 =>
    rw [q] at h
    intro H1 g ds v dat fr
    exact k v H1 d δ1 (r.grow g ds) g dat fr h
  | er c δ1 =>
    rw [q] at h
    exact fun H' g ds => h σ H' (r.grow g ds).end_
  | bad => rw [q] at h; exact h
theorem PostS.bindB {e : E} {f : Bool → DS → R Fl} {Q : Bool → Hp → Prop} (r : Rel K Φ σ H ρ δ) (h : PostS K Φ W Dn σ0 Y ((evB F e ρ δ).bind f))
    (k : ∀ b H1 δ1, Rel K Φ σ H1 ρ δ1 → PostS K Φ W Dn σ0 Y (f b δ1) → Q b H1) : tT F K W e σ H Q := by
  refine ⟨Φ, ρ, δ, r, ?_⟩
  cases q : evB F e ρ δ with
  | ok d δ1 =>
    rw [q] at h
    intro H1 g ds
    exact k d H1 δ1 (r.grow g ds) h
  | er c δ1 =>
    rw [q] at h
    exact fun H' g ds => h σ H' (r.grow g ds).end_
  | bad => rw [q] at h; exact h
theorem s_sk {pos : Pos} : PS X (.Pass pos) (tS F X.K W .sk) := PS.imp ps_pass fun Dn σ H ⟨Φ, ρ, δ, r, q⟩ => q σ H r SetsOnly.refl
theorem ss_nil : PSs X [] (tS F X.K W .sk) := PSs.imp pss_nil fun Dn σ H ⟨Φ, ρ, δ, r, q⟩ => q σ H r SetsOnly.refl
theorem ss_cons {s : Stmt} {l : List Stmt} {a b : S} (h1 : PS X s (tS F X.K W a)) (h2 : PSs X l (tS F X.K W b)) : PSs X (s :: l) (tS F X.K W (.sq a b)) := by
  refine PSs.imp (pss_cons h1 h2) fun Dn σ H ⟨Φ, ρ, δ, r, q⟩ => ?_
  simp only [exec] at q
  refine ⟨Φ, ρ, δ, r, ?_⟩
  cases qe : exec F a ρ δ with
  | ok f δ1 =>
    rw [qe] at q
    cases f with
    | nx ρ' => exact fun σ' H' r' so => ⟨Φ, ρ', δ1, r', PostS.weak q so (fun i hi => by simp only [asg, List.mem_append]; exact .inl hi) (fun i hi => by simp only [asg, List.mem_append]; exact .inr hi)⟩
    | rt d => exact q
  | er e δ1 => rw [qe] at q; exact q
  | bad => rw [qe] at q; exact q
theorem s_ret {e : Expr} {E' : E} {pos : Pos} (he : PE X e (tD F X.K W E')) : PS X (.Return (some e) pos) (tS F X.K W (.ret E')) := by
  refine PS.imp (ps_ret he) fun Dn σ H ⟨Φ, ρ, δ, r, q⟩ => ?_
  simp only [exec] at q
  exact PostS.bind r q fun v H1 d δ1 r1 g1 q1 _ q => q v H1 r1.end_ (Dat.mono (fun a o e _ n => ⟨e, fun z => n (.inl z)⟩) d q1.dat)
theorem s_ex {e : Expr} {E' : E} {pos : Pos} (he : PE X e (tD F X.K W E')) (hs : swapsWith e none pos.line X.env = pure false) : PS X (.Expr e pos) (tS F X.K W (.ex E')) := by
  refine PS.imp (ps_expr he hs) fun Dn σ H ⟨Φ, ρ, δ, r, q⟩ => ?_
  simp only [exec] at q
  exact PostS.bind r q fun v H1 d δ1 r1 g1 q1 _ q => q σ H1 r1 SetsOnly.refl
theorem s_if {t : Expr} {a b : List Stmt} {et : E} {sa sb : S} {pos : Pos} (ht : PT X t (tT F X.K W et)) (ha : PSs X a (tS F X.K W sa)) (hb : PSs X b (tS F X.K W sb)) : PS X (.If t a b pos) (tS F X.K W (.ifs et sa sb)) := by
  refine PS.imp (ps_if ht ha hb) fun Dn σ H ⟨Φ, ρ, δ, r, q⟩ => ?_
  simp only [exec] at q
  refine PostS.bindB r q fun b H1 δ1 r1 q => ?_
  cases b with
  | true => exact ⟨Φ, ρ, δ1, r1, PostS.weak q SetsOnly.refl (Y1 := []) (fun _ z => nomatch z) (fun i hi => by simp only [asg, List.mem_append]; exact .inl hi)⟩
  | false => exact ⟨Φ, ρ, δ1, r1, PostS.weak q SetsOnly.refl (Y1 := []) (fun _ z => nomatch z) (fun i hi => by simp only [asg, List.mem_append]; exact .inr hi)⟩
theorem s_wh {t : Expr} {b : List Stmt} {et : E} {sb : S} {pos : Pos} (G : GoodS c F X W) (ht : PT X t (tT F X.K W et)) (hb : PSs X b (tS F X.K W sb)) : PS X (.While t b [] pos) (tS F X.K W (.wh et sb)) := by
  refine PS.imp (ps_while G.po ht hb) fun Dn σ H ⟨Φ, ρ, δ, r, q⟩ => ?_
  simp only [exec] at q
  have q : PostS X.K Φ W Dn σ (asg sb) (loopW (evB F et) (fun ρ δ => exec F sb ρ δ) 100000 ρ δ) := q
  refine ⟨fun m σ' H => ∃ ρ δ, Rel X.K Φ σ' H ρ δ ∧ SetsOnly σ σ' (asg sb) ∧ PostS X.K Φ W Dn σ (asg sb) (loopW (evB F et) (fun ρ δ => exec F sb ρ δ) m ρ δ), ⟨_, ρ, δ, r, SetsOnly.refl, q⟩, fun m σ1 H ⟨ρ, δ, r, so, q⟩ => ?_⟩
  cases m with
  | zero => exact q.elim
  | succ m =>
    simp only [loopW] at q
    refine PostS.bindB r q fun b H1 δ1 r1 q => ?_
    cases b with
    | false => exact q σ1 H1 r1 so
    | true =>
      simp only [if_true] at q ⊢
      refine ⟨fun σ' H' => ∃ ρ δ, Rel X.K Φ σ' H' ρ δ ∧ SetsOnly σ σ' (asg sb) ∧ PostS X.K Φ W Dn σ (asg sb) (loopW (evB F et) (fun ρ δ => exec F sb ρ δ) m ρ δ), fun σ' H' h => ⟨m, Nat.lt_succ_self m, h⟩, Φ, ρ, δ1, r1, ?_⟩
      cases qe : exec F sb ρ δ1 with
      | ok f δ2 =>
        rw [qe] at q
        cases f with
        | nx ρ' => exact fun σ' H' r' so' => ⟨ρ', δ2, r', so.trans so', q⟩
        | rt d => exact q
      | er e δ2 => rw [qe] at q; exact q
      | bad => rw [qe] at q; exact q
theorem s_rai {x m : Str} {j : Nat} {p p2 pos pos' : Pos} (G : GoodS c F X W) (hl : c.G.lookup x = some .ec) (gl : Gl X x) (hd : (x == ("__debug__" : Str)) = false) : PS X (.Raise (some (.Call (.Name x p) [.Constant (.str m) j p2] [] pos)) none pos') (tS F X.K W (.rai x)) := by
  obtain ⟨C, m1, m2, m3, m4⟩ := G.ex x hl
  refine PS.imp (ps_raise G.calm G.tk (pmk_own PySem.F.excBase_ValueError m2 m1 m3 m4 gl hd)) fun Dn σ H ⟨Φ, ρ, δ, r, q⟩ => ?_
  exact ⟨x, C, m1, rfl, rfl, q σ H r.end_⟩

/-! ### stores -/
theorem keepE_rel {e : E} {d : D} (r : Rel K Φ σ H ρ δ) : Rel K Φ σ H (keepE ρ e d) δ := by
  unfold keepE
  split
  · exact r
  · exact r.frz _
theorem keepE_len {e : E} {d : D} : (keepE ρ e d).length = ρ.length := by
  unfold keepE
  split
  · rfl
  · exact frz_length _
theorem keepE_dat {e : E} {d : D} {v : V} (q : Dat K H (AvX Φ σ ρ (esc e)) v d) : Dat K H (Av Φ σ (keepE ρ e d)) v d := by
  unfold keepE
  split
  · rename_i h; exact Dat.scal h q
  · exact Dat.mono (fun a o e _ n => ⟨e, fun z => n (av_frz z)⟩) d q
theorem keepE_sub {e : E} {d : D} {a : Addr} (h : Av Φ σ (keepE ρ e d) a) : Av Φ σ ρ a := by
  unfold keepE at h
  split at h
  · exact h
  · exact (av_frz h).av
/-- name = e -/
theorem i_set {i : Nat} {e : E} (h : tS F K W (.set i e) Dn σ H) : tAsg (tD F K W e) (gName i) Dn σ H := by
  obtain ⟨Φ, ρ, δ, r, q⟩ := h
  simp only [exec] at q
  refine PostS.bind r q fun v H1 d δ1 r1 g1 q1 fr q => ?_
  unfold store at q
  split at q
  · rename_i hi
    have q : ∀ σ' H', Rel K Φ σ' H' ((keepE ρ e d).set i (if fresh e && isL d then .ow d else .va d)) δ1 → SetsOnly σ σ' [i] → Dn.nx σ' H' := q
    show Dn.nx (σ.set i (some v)) H1
    refine q _ _ ?_ (SetsOnly.set (by simp))
    by_cases hf : (fresh e && isL d) = true
    · rw [if_pos hf]
      rw [Bool.and_eq_true] at hf
      obtain ⟨p, rfl, hp, l1⟩ := fr hf.1 hf.2
      have ns : ¬ scalar d = true := fun z => by cases d <;> simp [isL] at hf <;> simp [scalar, flat] at z
      refine Rel.setOw (keepE_rel (e := e) (d := d) r) g1 r1.ds (by rw [keepE_len]; exact hi) hp (l1.mono (fun _ h => h) fun a o e' _ n => ⟨e', fun z => n ?_⟩)
      rcases z with z | z
      · exact .inl z
      · right
        unfold keepE at z
        rw [if_neg ns] at z
        exact avE (av_frz z)
    · rw [if_neg hf]
      exact (keepE_rel r1).setVa (keepE_dat q1.dat)
  · exact q.elim
theorem swaps_no {e : Expr} {t : Option Expr} {l : Nat} {env : PySem.Env} (h : isComp e = false) : swapsWith e t l env = pure false := by
  cases e <;> first | rfl | cases h
theorem blockKind_fn {env : PySem.Env} (h : env.scope.kind = .function) : env.blockKind = .function := by
  unfold PySem.Env.blockKind; rw [h]; rfl
theorem sw_lc {elt : Expr} {gs : List Comprehension} {scope : Scope} {pos py : Pos} {y : Str} {l : Nat} {env : PySem.Env} (hk : env.scope.kind = .function) :
    swapsWith (.ListComp elt gs scope pos) (some (.Name y py)) l env = pure (env.kindOf y == some .local && py.line == pos.line && !(scope.names.any fun (n, k) => n == y && (k == .local || k == .cell))) := by
  unfold swapsWith
  simp only [blockKind_fn hk, Expr.pos]
  rfl
theorem s_set {x : Str} {i : Nat} {e : Expr} {E' : E} {py pos : Pos} {n : Nat} (hn : n ≤ 1000) (G : GoodS c F X W) (ht : tgOf c x = some i) (he : cmpE c n e = some E') : PS X (.Assign [.Name x py] e pos) (tS F X.K W (.set i E')) := by
  obtain ⟨h1, h2, h3⟩ := tg_ok G.N G.sc G.fn ht
  have hE := ((allOk F n (by omega) c).e G.toGood he).1
  by_cases hc : isComp e = true
  · cases e with
    | ListComp elt gs scope pos' =>
      cases n with
      | zero => simp [cmpE] at he
      | succ n =>
        obtain ⟨tg, iter, ifs, own, t, it, ee, cc, rfl, _, ok, hi, hg, hts, hel, hfs, imp⟩ := ok_lc (allOk F n (by omega) c) (fun sc => allOk F n (by omega) _) G.toGood he
        have sw := sw_lc (elt := elt) (gs := [⟨tg, iter, ifs, 0⟩]) (scope := scope) (pos := pos') (py := py) (y := x) (l := pos.line) (env := X.env) G.kind
        cases hb : (X.env.kindOf x == some .local && py.line == pos'.line && !(scope.names.any fun (n, k) => n == x && (k == .local || k == .cell))) with
        | true =>
          rw [hb] at sw
          have hl : X.env.scope.names.lookup x = some .local := by
            simp only [Bool.and_eq_true, beq_iff_eq] at hb
            exact hb.1.1
          refine PS.imp (ps_setLc G.calm G.nd h1 hl sw hi ok hg hts hel hfs) fun Dn σ H q => ?_
          exact imp _ _ _ (i_set q)
        | false =>
          rw [hb] at sw
          exact PS.imp (ps_set G.nd h1 h2 hE sw h3) fun Dn σ H q => i_set q
    | SetComp _ _ _ _ => cases n <;> simp [cmpE] at he
    | DictComp _ _ _ _ _ => cases n <;> simp [cmpE] at he
    | _ => cases hc
  · exact PS.imp (ps_set G.nd h1 h2 hE (swaps_no (by simpa using hc)) h3) fun Dn σ H q => i_set q
/-- a, b = e, e a tuple's value -/
theorem s_unp {tg e : Expr} {t : Tg} {E' : E} {pos : Pos} (hg : PG X tg (gT X.K t)) (htg : isTup tg = true) (he : PE X e (tD F X.K W E')) (hc : isComp e = false) (hne : isTup e = false) : PS X (.Assign [tg] e pos) (tS F X.K W (.unp t E')) := by
  obtain ⟨es, k, q, rfl⟩ := isTup_eq htg
  have hs : swapsWithSole [.Tuple es k q] e pos.line X.env = pure false := by
    cases e <;> first | rfl | cases hc
  have hw : swappedStores [.Tuple es k q] e X.env = pure none := by
    cases e <;> first | rfl | cases hne
  refine PS.imp (ps_asg he hg hs hw rfl) fun Dn σ H ⟨Φ, ρ, δ, r, q⟩ => ?_
  simp only [exec] at q
  refine PostS.bind r q fun v H1 d δ1 r1 g1 q1 fr q => ?_
  cases hb : bindT (frz ρ (esc E')) t d with
  | none => rw [hb] at q; exact q.elim
  | some ρ' =>
    rw [hb] at q
    exact ⟨Φ, frz ρ (esc E'), δ1, d, ρ', r1.frz _, Dat.mono (fun a o e _ n => ⟨e, fun z => n (av_frz z)⟩) d q1.dat, hb, fun σ' r' so _ => q σ' H1 r' so⟩

/-! ### own lists -/
theorem ow_slot {i : Nat} {ds : List D} (r : Rel K Φ σ H ρ δ) (h : ρ[i]? = some (.ow (.list ds))) : ∃ a xs, σ[i]? = some (some (.ref a)) ∧ H a = some (.lst xs) ∧ DatL K H (Av Φ σ ρ) xs ds ∧ ¬ Φ.A a :=
  let ⟨a, e1, n, ⟨xs, e2, e3⟩, _⟩ := r.ow i _ h; ⟨a, xs, e1, e2, e3, n⟩
theorem ow_dict {i : Nat} {ds : List (D × D)} (r : Rel K Φ σ H ρ δ) (h : ρ[i]? = some (.ow (.dict ds))) : ∃ a o xs, σ[i]? = some (some (.ref a)) ∧ H a = some (DO a o) ∧ GoodD a o xs ∧ DatP K H (Av Φ σ ρ) xs ds ∧ ¬ Φ.A a :=
  let ⟨a, e1, n, ⟨o, xs, e2, g, e3⟩, _⟩ := r.ow i _ h; ⟨a, o, xs, e1, e2, g, e3, n⟩
theorem ow_place {i : Nat} {d : D} (r : Rel K Φ σ H ρ δ) (h : ρ[i]? = some (.ow d)) : ∃ a, σ[i]? = some (some (.ref a)) :=
  let ⟨a, e1, _⟩ := r.ow i _ h; ⟨a, e1⟩
theorem var_run {i : Nat} {a : Addr} {Q : VK} (h : σ[i]? = some (some (.ref a))) (q : Q (.ref a) H) : tVar i σ H Q := ⟨_, h, q⟩
/-- slots that hold their own list behind the storing did so before -/
theorem keep_ow {e : E} {d d' : D} {i : Nat} (h : (keepE ρ e d)[i]? = some (.ow d')) : ρ[i]? = some (.ow d') := by
  unfold keepE at h
  split at h
  · exact h
  · exact (frz_ow _ h).1
theorem set_same {i : Nat} {v : V} (h : σ[i]? = some (some v)) : σ.set i (some v) = σ := by
  refine List.ext_getElem? fun j => ?_
  by_cases e : j = i
  · subst e
    rw [List.getElem?_set_self (List.getElem?_eq_some_iff.mp h).1, h]
  · rw [List.getElem?_set_ne (Ne.symm e)]
theorem s_app {x : Str} {i : Nat} {a : Expr} {ea : E} {px apos cpos pos : Pos} (G : GoodS c F X W) (hx : slotOf c x = some i) (ha : PE X a (tD F X.K W ea)) (hst : isStar a = false) (hline : (apos.endLine == cpos.line) = true) :
    PS X (.Expr (.Call (.Attribute (.Name x px) "append" apos) [a] [] cpos) pos) (tS F X.K W (.app i ea)) := by
  obtain ⟨s1, s2, s3, s4⟩ := slot_ok G.toGood hx
  have st := star1 (es := []) (env := X.env) hst
  refine PS.imp (ps_expr (pe_bm PySem.F.plainAttrs_list PySem.F.slot_list_append PySem.F.type_list_append mt_append (pe_var s1 s2 s3 s4) (pa_cons ha pa_nil st) rfl (by rw [st]; rfl) hline st rfl) rfl) fun Dn σ H ⟨Φ, ρ, δ, r, q⟩ => ?_
  simp only [exec] at q
  split at q
  · rename_i ho
    unfold ownL at ho
    split at ho
    · rename_i ds h0
      · obtain ⟨p, xs, e1, e2, e3, nA⟩ := ow_slot r h0
        refine ⟨_, e1, .inl ⟨rfl, _, SqL.of e2⟩, ?_⟩
        refine PostS.bind r q fun v H1 d δ1 r1 g1 q1 fr q => ?_
        cases hs : (keepE ρ ea d)[i]? with
        | none => rw [hs] at q; exact q.elim
        | some sl =>
          rw [hs] at q
          cases sl with
          | ow d' =>
            have h1 := keep_ow hs
            rw [h0] at h1
            injection h1 with h1; injection h1 with h1; subst h1
            simp only at q
            split at q
            · rename_i hz
              have rk := keepE_rel (e := ea) (d := d) r1
              obtain ⟨p', xs', f1, f2, f3, _⟩ := ow_slot rk hs
              rw [e1] at f1
              injection f1 with f1; injection f1 with f1; injection f1 with f1; subst f1
              refine ⟨p, xs', v, rfl, rfl, f2, by rw [f3.length]; exact Nat.lt_of_lt_of_le hz big_ok, ?_⟩
              exact q σ _ (rk.mut hs e1 (f3.append (DatL.one (keepE_dat q1.dat)))) SetsOnly.refl
            · exact q.elim
          | _ => exact q.elim
    · cases ho
  · exact q.elim
mutual
/-- a key's data stands on nothing that is avoided -/
theorem key_av (r : Rel K Φ σ H ρ δ) {A : Addr → Prop} : ∀ {v : V} {d : D} {k : NestedKey}, keyOf d = some k → Dat K H A v d → Dat K H (Av Φ σ ρ) v d
  | v, .int i, k, h, q => by simpa [Dat] using q
  | v, .tuple ds, k, h, q => by
    simp only [keyOf] at h
    cases e : keysOf ds with
    | none => rw [e] at h; cases h
    | some ks =>
      simp only [Dat] at q ⊢
      obtain ⟨a, xs, rfl, e1, l⟩ := q
      refine ⟨a, xs, rfl, ?_, keys_av r e l⟩
      rcases e1 with ⟨e1, _⟩ | e1
      · refine .inl ⟨e1, fun z => ?_⟩
        obtain ⟨ys, e2⟩ := Av.lst r z
        rw [e1] at e2; cases ys <;> cases e2
      · exact .inr e1
  | v, .none, k, h, q => by simp [keyOf] at h
  | v, .bool _, k, h, q => by simp [keyOf] at h
  | v, .str _, k, h, q => by simp [keyOf] at h
  | v, .list _, k, h, q => by simp [keyOf] at h
  | v, .dict _, k, h, q => by simp [keyOf] at h
theorem keys_av (r : Rel K Φ σ H ρ δ) {A : Addr → Prop} : ∀ {vs : List V} {ds : List D} {ks : List NestedKey}, keysOf ds = some ks → DatL K H A vs ds → DatL K H (Av Φ σ ρ) vs ds
  | [], [], ks, h, q => by simp [DatL]
  | [], _ :: _, _, _, q => by simp [DatL] at q
  | _ :: _, [], _, _, q => by simp [DatL] at q
  | v :: vs, d :: ds, ks, h, q => by
    simp only [keysOf] at h
    split at h
    · rename_i k1 ks1 a1 a2
      simp only [DatL] at q ⊢
      exact ⟨key_av r a1 q.1, keys_av r a2 q.2⟩
    · cases h
end
theorem keepS_rel {e : E} {d : D} (r : Rel K Φ σ H ρ δ) : Rel K Φ σ H (keepS ρ e d) δ := by
  unfold keepS
  split
  · exact r
  · exact r.frz _
theorem keepS_dat {e : E} {d : D} {v : V} (r : Rel K Φ σ H ρ δ) (q : Dat K H (AvX Φ σ ρ (esc e)) v d) : Dat K H (Av Φ σ (keepS ρ e d)) v d := by
  unfold keepS
  split
  · rename_i h; exact solid_av r d h q
  · exact Dat.mono (fun a o e _ n => ⟨e, fun z => n (av_frz z)⟩) d q
theorem keepS_ow {e : E} {d d' : D} {i : Nat} (h : (keepS ρ e d)[i]? = some (.ow d')) : ρ[i]? = some (.ow d') := by
  unfold keepS at h
  split at h
  · exact h
  · exact (frz_ow _ h).1
theorem s_sti {x : Str} {i : Nat} {k e : Expr} {ek ee : E} {px tpos pos : Pos} (G : GoodS c F X W) (hx : slotOf c x = some i) (hk : PE X k (tD F X.K W ek)) (hns : isSlice k = false) (he : PE X e (tD F X.K W ee)) :
    PS X (.Assign [.Subscript (.Name x px) k tpos] e pos) (tS F X.K W (.sti i ek ee)) := by
  obtain ⟨s1, s2, s3, s4⟩ := slot_ok G.toGood hx
  have hs : swapsWithSole [.Subscript (.Name x px) k tpos] e pos.line X.env = pure false := by cases e <;> rfl
  have hw : swappedStores [.Subscript (.Name x px) k tpos] e X.env = pure none := by cases e <;> rfl
  refine PS.imp (ps_asg he (pg_sub (pe_var s1 s2 s3 s4) hk (PSet.or set_list (set_dn G.un)) (fun v => by cases k <;> first | rfl | cases hns)) hs hw rfl) fun Dn σ H ⟨Φ, ρ, δ, r, q⟩ => ?_
  simp only [exec] at q
  refine PostS.bind r q fun v H1 d δ1 r1 g1 q1 fr q => ?_
  split at q
  · rename_i ho
    unfold owned at ho
    split at ho
    · rename_i d0 h0
      obtain ⟨p, e1⟩ := ow_place r1 h0
      refine ⟨_, e1, ?_⟩
      refine PostS.bind r1 q fun w H2 dk δ2 r2 g2 q2 _ q => ?_
      have q1 := g2.dat2 (r1.drA _) (r1.drA _) q1
      cases hs : (keepS ρ ee d)[i]? with
      | none => rw [hs] at q; exact q.elim
      | some sl =>
        rw [hs] at q
        cases sl with
        | ow d' =>
          have h1 := keepS_ow hs
          rw [h0] at h1
          injection h1 with h1; injection h1 with h1; subst h1
          have rk := keepS_rel (e := ee) (d := d) r2
          cases d0 with
          | list ds =>
            cases dk with
            | int j =>
              simp only [Dat2, Dat] at q2
              subst q2
              simp only at q
              cases hj : ixN ds.length j with
              | none => rw [hj] at q; exact q.elim
              | some j' =>
                rw [hj] at q
                obtain ⟨p', xs', f1, f2, f3, _⟩ := ow_slot rk hs
                rw [e1] at f1
                injection f1 with f1; injection f1 with f1; injection f1 with f1; subst f1
                refine .inl ⟨p, xs', j, j', rfl, rfl, f2, by rw [f3.length]; exact hj, ?_⟩
                exact q σ _ (rk.mut hs e1 (f3.set (keepS_dat r2 q1.dat) j')) SetsOnly.refl
            | _ => exact q.elim
          | dict kvs =>
            simp only at q
            split at q
            · rename_i hk
              rw [Bool.and_eq_true, decide_eq_true_eq] at hk
              obtain ⟨k, k1, k2, k3⟩ := isKey_key hk.1
              obtain ⟨bb, rfl, kb⟩ := key8_of k3 k1 k2 q2.dat
              obtain ⟨p', o, xs', f1, f2, gd, f3, _⟩ := ow_dict rk hs
              rw [e1] at f1
              injection f1 with f1; injection f1 with f1; injection f1 with f1; subst f1
              refine .inr ⟨p, bb, k, xs', o, rfl, rfl, f2, gd, f3.keys8, kb, by rw [f3.length]; exact Nat.lt_of_lt_of_le hk.2 big_ok, fun o' g' => ?_⟩
              refine q σ _ (rk.mutD hs e1 g' (f3.put k1 k2 ?_ (keepS_dat r2 q1.dat) gd.nd)) SetsOnly.refl
              have kd := q2.dat
              obtain ⟨ds, rfl⟩ := k3
              exact key_av rk k1 kd
            · exact q.elim
          | _ => exact q.elim
        | _ => exact q.elim
    · cases ho
  · exact q.elim
theorem s_aug {x : Str} {i : Nat} {e : Expr} {ee : E} {px pos : Pos} (G : GoodS c F X W) (hx : tgOf c x = some i) (he : PE X e (tD F X.K W ee)) : PS X (.AugAssign (.Name x px) .Add e pos) (tS F X.K W (.aug i ee)) := by
  obtain ⟨h1, h2, h3⟩ := tg_ok G.N G.sc G.fn hx
  refine PS.imp (ps_aug (op := .Add) (ti := fun x y H Q => rI0 (fun i j => .int (i + j)) x y H Q ∨ rExt2 x y H Q) G.nd h1 h2 he (OpR.or iop_add iop_ext) h3) fun Dn σ H ⟨Φ, ρ, δ, r, q⟩ => ?_
  simp only [exec] at q
  cases hl : look ρ i with
  | none => rw [hl] at q; exact q.elim
  | some d0 =>
    rw [hl] at q
    simp only at q
    unfold look at hl
    cases hs : ρ[i]? with
    | none => rw [hs] at hl; cases hl
    | some sl =>
      rw [hs] at hl q
      cases sl with
      | va d1 =>
        obtain ⟨v, e1, e2⟩ := r.va i d1 hs
        refine ⟨v, e1, PostS.bind r q fun w H1 d δ1 r1 g1 q1 _ q => ?_⟩
        cases d1 with
        | int a =>
          cases d with
          | int b =>
            simp only [Dat2, Dat] at e2 q1
            subst e2; subst q1
            exact .inl ⟨a, b, rfl, rfl, q _ _ (r1.setVa (by simp [Dat])) (SetsOnly.set (by simp [asg]))⟩
          | _ => exact q.elim
        | _ => cases d <;> exact q.elim
      | ow d1 =>
        obtain ⟨p, e1⟩ := ow_place r hs
        refine ⟨_, e1, PostS.bind r q fun w H1 d δ1 r1 g1 q1 _ q => ?_⟩
        cases d1 with
        | list ds =>
          cases d with
          | list ys =>
            simp only at q
            split at q
            · rename_i hc
              simp only [Bool.and_eq_true, decide_eq_true_eq] at hc
              obtain ⟨p', xs', f1, f2, f3, _⟩ := ow_slot r1 hs
              rw [e1] at f1
              injection f1 with f1; injection f1 with f1; injection f1 with f1; subst f1
              have q1 := q1.dat
              simp only [Dat] at q1
              obtain ⟨pb, zs, rfl, eb, nb, lb⟩ := q1
              have lb : DatL X.K H1 (Av Φ σ ρ) zs ys := DatL.mono (fun a o e _ n => ⟨e, fun z => n (av_clear hc.1 z)⟩) ys lb
              refine .inr ⟨p, pb, xs', zs, rfl, rfl, f2, eb, by rw [f3.length, lb.length]; exact Nat.le_trans hc.2 big_ok, ?_⟩
              show Dn.nx (σ.set i (some (.ref p))) _
              rw [set_same e1]
              exact q _ _ (r1.mut hs e1 (f3.append lb)) SetsOnly.refl
            · exact q.elim
          | _ => exact q.elim
        | _ => cases d <;> exact q.elim
      | no => cases hl
      | dr => cases hl
/-! ### for -/
theorem Rel.protect {T : V → D → Prop} {C : Addr → HO → Prop} (r : Rel K Φ σ H ρ δ) (ht : ∀ v d, T v d → Dat K H (Av Φ σ ρ) v d) (hc : ∀ a o, C a o → H a = some o ∧ ¬ Av Φ σ ρ a) : Rel K { Φ with T := fun v d => Φ.T v d ∨ T v d, C := fun a o => Φ.C a o ∨ C a o } σ H ρ δ :=
  ⟨r.len, r.va, r.ow, r.inj, r.dr, r.ds, r.al, r.fr, fun v d h => h.elim (r.tm v d) (ht v d), fun a o h => h.elim (r.ce a o) (hc a o)⟩
theorem Rel.unprotect {T : V → D → Prop} {C : Addr → HO → Prop} (r : Rel K { Φ with T := fun v d => Φ.T v d ∨ T v d, C := fun a o => Φ.C a o ∨ C a o } σ H ρ δ) : Rel K Φ σ H ρ δ :=
  ⟨r.len, r.va, r.ow, r.inj, r.dr, r.ds, r.al, r.fr, fun v d h => r.tm v d (.inl h), fun a o h => r.ce a o (.inl h)⟩
theorem s_for {tg it : Expr} {b : List Stmt} {t : Tg} {I' : I} {sb : S} {pos : Pos} (G : GoodS c F X W) (hi : PI X tg it (tI F X.K W I')) (hfs : ∀ x, foldedSetIterable it X.env x = pure x) (hg : PG X tg (gT X.K t)) (hb : PSs X b (tS F X.K W sb)) :
    PS X (.For tg it b [] pos) (tS F X.K W (.fors t I' sb)) := by
  refine PS.imp (ps_for G.po G.calm hi hg hb hfs) fun Dn σ H ⟨Φ, ρ, δ, r, q⟩ => ?_
  simp only [exec] at q
  split at q
  · rename_i cl
    refine ⟨Φ, ρ, δ, r, cl, ?_⟩
    cases qi : evI F I' ρ δ with
    | er e δ1 =>
      rw [qi] at q
      exact fun H' g ds => q σ H' (r.grow g ds).end_
    | bad => rw [qi] at q; exact q
    | ok xs δ1 =>
      rw [qi] at q
      intro H1 g1 ds1 J C T wd hC hT
      simp only [R.bind_ok] at q
      let Φ' : Fm := { Φ with T := fun v d => Φ.T v d ∨ T v d, C := fun a o => Φ.C a o ∨ C a o }
      have r1 : Rel X.K Φ' σ H1 (frz ρ (escR I')) δ1 := ((r.grow g1 ds1).frz _).protect (fun v d h => Dat.mono (fun a o e _ n => ⟨e, fun z => n (av_frz z).av⟩) d (hT v d h)) (fun a o h => ⟨(hC a o h).1, fun z => (hC a o h).2 (av_frz z)⟩)
      have wk : Walk J xs.length (fun H => ∀ a o, C a o → H a = some o) J.yld := ⟨fun i H hi h => wd.go i H hi h, fun H h => wd.stop H h, fun _ _ _ _ _ _ y => y⟩
      let Pv : Nat → L2.St → Hp → Prop := fun i σ' H' => ∃ ρi δi, Rel X.K Φ' σ' H' ρi δi ∧ SetsOnly σ σ' (t.ixs ++ asg sb) ∧ PostS X.K Φ W Dn σ (t.ixs ++ asg sb) (loopF t (fun ρ δ => exec F sb ρ δ) (xs.drop i) ρi δi)
      refine for_it wk Pv ⟨_, _, r1, SetsOnly.refl, by simpa [asg] using q⟩ (fun i σ' H' _ ⟨ρi, δi, ri, _⟩ a o h => (ri.ce a o (.inr h)).1) (fun i x σ' H' H2 hi ⟨ρi, δi, ri, so, qi⟩ y => ?_) fun σ' H' ⟨ρi, δi, ri, so, qi⟩ => ?_
      · obtain ⟨ex, d, hd, dx⟩ := wd.yld i H' x H2 (Av Φ' σ' ρi) hi (fun a o h => (ri.ce a o (.inr h)).1) (fun v d h => ri.tm v d (.inr h)) (fun a z => Av.lst ri z) y
        have hdrop : xs.drop i = d :: xs.drop (i + 1) := by
          rw [List.drop_eq_getElem_cons hi]
          rw [List.getElem?_eq_getElem hi] at hd
          injection hd with hd
          rw [hd]
        rw [hdrop] at qi
        simp only [loopF] at qi
        cases hb : bindT ρi t d with
        | none => rw [hb] at qi; exact qi.elim
        | some ρ1 =>
          rw [hb] at qi
          simp only at qi
          refine ⟨Φ', ρi, δi, d, ρ1, ri.grow0 ex, dx, hb, fun σ2 r2 so2 _ => ⟨Φ', ρ1, δi, r2, ?_⟩⟩
          cases qe : exec F sb ρ1 δi with
          | ok f δ2 =>
            rw [qe] at qi
            cases f with
            | nx ρ' => exact fun σ'' H'' r'' so3 => ⟨ρ', δ2, r'', (so.trans (so2.mono fun i hi => by simp [hi])).trans (so3.mono fun i hi => by simp [hi]), qi⟩
            | rt d => exact qi
          | er e δ2 => rw [qe] at qi; exact qi
          | bad => rw [qe] at qi; exact qi
      · simp only [List.drop_length, loopF] at qi
        exact qi σ' H' ri.unprotect so
  · exact q.elim
end
end Tk
set_option linter.all false
set_option Elab.async false
set_option maxRecDepth 100000
set_option maxHeartbeats 1000000
namespace Tk
open PySem L2

/-- an argument list, each expression by itself -/
def tL (F : Tab) (K : PySem.W.Frag) (W : WS) : Es → TA
  | .nil => tNil
  | .cons e es => tCons (tD F K W e) (tL F K W es)
def setAll (σ : L2.St) : List Nat → List V → L2.St
  | i :: is, v :: vs => setAll (σ.set i (some v)) is vs
  | _, _ => σ
section
variable {F : Tab} {W : WS} {X : Cx} {c : Ctx} {K : PySem.W.Frag} {Φ : Fm} {σ : L2.St} {H H1 : Hp} {ρ : Env} {δ δ1 : DS} {Dn : Ends} {σ0 : L2.St} {Y : List Nat}
theorem a_raw : ∀ {n : Nat}, n ≤ 1000 → ∀ {as : List Expr} {es : Es}, Good c F X W → cmpEs c n as = some es → PA X as (tL F X.K W es)
  | 0, _, as, es, _, h => by simp [cmpEs] at h
  | n + 1, hn, [], es, _, h => by
    simp [cmpEs] at h
    subst h
    exact pa_nil
  | n + 1, hn, a :: as, es, G, h => by
    simp only [cmpEs] at h
    split at h
    · rename_i a' l' h1 h2
      injection h with h; subst h
      exact pa_cons ((allOk F n (by omega) c).e G h1).1 (a_raw (by omega) G h2) (star1 (cmpE_star h1))
    · cases h
/-- a new list is avoided from now on -/
theorem Rel.hideG {p : Addr} {m : Mu} (r : Rel K Φ σ H ρ δ) (g : Gr Φ H H1) (ds1 : DsOk Φ H1 δ1) (h : H p = none) (h1 : H1 p = some m.o) : Rel K { Φ with A := fun a => Φ.A a ∨ a = p } σ H1 ρ δ1 := by
  have R := r.grow g ds1
  have sub : ∀ a, Av { Φ with A := fun a => Φ.A a ∨ a = p } σ ρ a → Av Φ σ ρ a ∨ a = p := fun a z => z.elim (fun z => z.elim (fun z => .inl (.inl z)) .inr) fun z => .inl (.inr z)
  have go : ∀ a o, H a = some o → Seq o → ¬ Av Φ σ ρ a → H1 a = some o ∧ ¬ Av { Φ with A := fun a => Φ.A a ∨ a = p } σ ρ a := fun a o e _ n =>
    ⟨g a o e fun z => n (r.drV a z), fun z => (sub a z).elim n fun z => ne_of_none e h z⟩
  refine ⟨r.len, fun i d e => ?_, fun i d e => ?_, r.inj, r.dr, ?_, fun a z => ?_, R.fr, fun v d t => Dat.mono go d (r.tm v d t), fun a o cc => ?_⟩
  · obtain ⟨v, e1, e2⟩ := r.va i d e
    exact ⟨v, e1, Dat.mono go d e2⟩
  · obtain ⟨a, e1, n, e2, e4⟩ := r.ow i d e
    obtain ⟨m', e3⟩ := e2.mu
    exact ⟨a, e1, fun z => z.elim n fun z => ne_of_none e3 h z, e2.mono (fun o e => g a o e (r.nDr n)) go, e4⟩
  · have d := ds1
    unfold DsOk at d ⊢
    simp only
    split at d
    · trivial
    · exact ⟨d.1, d.2.1, d.2.2.1, .inl d.2.2.2.1, .inl d.2.2.2.2⟩
    · exact d.elim
  · rcases z with z | z
    · exact R.al a z
    · exact ⟨m, by rw [z]; exact h1⟩
  · obtain ⟨e, n⟩ := r.ce a o cc
    exact ⟨g a o e fun z => n (r.drV a z), fun z => (sub a z).elim n fun z => ne_of_none e h z⟩
/-- .. and comes into a slot -/
theorem Rel.unhide {A2 : Addr → Prop} {p : Addr} {i : Nat} {dd : D} (r : Rel K Φ σ H ρ δ) (hp : Φ.A p) (hA : ∀ a, A2 a → Φ.A a ∧ a ≠ p) (hB : ∀ a, Φ.A a → a ≠ p → A2 a) (nd : ¬ Dr Φ p) (h0 : Φ.H0 p = none ∨ Φ.W p) (hi : i < ρ.length) (q : Obj1 K H (Av Φ σ ρ) p dd) :
    Rel K { Φ with A := A2 } (σ.set i (some (.ref p))) H (ρ.set i (.ow dd)) δ := by
  have hl : i < σ.length := by rw [r.len]; exact hi
  have sub : ∀ a, Av { Φ with A := A2 } (σ.set i (some (.ref p))) (ρ.set i (.ow dd)) a → Av Φ σ ρ a := fun a z => by
    rcases z with z | ⟨j, d, e1, e2⟩
    · exact .inl (hA a z).1
    · rcases set_get e1 with ⟨z1, _, _⟩ | ⟨n, e1⟩
      · rcases set_get e2 with ⟨_, z2, _⟩ | ⟨n2, _⟩
        · injection z2 with z2; injection z2 with z2
          rw [z2]; exact .inl hp
        · exact absurd z1 n2
      · rcases set_get e2 with ⟨z2, _⟩ | ⟨_, e2⟩
        · exact absurd z2 n
        · exact .inr ⟨j, d, e1, e2⟩
  have go : ∀ a o, H a = some o → Seq o → ¬ Av Φ σ ρ a → H a = some o ∧ ¬ Av { Φ with A := A2 } (σ.set i (some (.ref p))) (ρ.set i (.ow dd)) a := fun a o e _ n => ⟨e, fun z => n (sub a z)⟩
  refine ⟨by simpa using r.len, fun j d e => ?_, fun j d ej => ?_, fun j l d e' a g1 g2 g3 g4 => ?_, fun j e => ?_, ?_, fun a z => r.al a (hA a z).1, r.fr, fun w d t => Dat.mono go d (r.tm w d t), fun a o cc => ?_⟩
  · rcases set_get e with ⟨_, e2, _⟩ | ⟨n, e⟩
    · cases e2
    · obtain ⟨u, e1, e2⟩ := r.va j d e
      exact ⟨u, by rw [List.getElem?_set_ne (Ne.symm n)]; exact e1, Dat.mono go d e2⟩
  · rcases set_get ej with ⟨e1, e2, e3⟩ | ⟨n, ej⟩
    · subst e1
      injection e2 with e2; subst e2
      exact ⟨p, List.getElem?_set_self hl, fun z => (hA p z).2 rfl, q.mono (fun _ h => h) go, h0⟩
    · obtain ⟨a, e1, na, e2, e4⟩ := r.ow j d ej
      exact ⟨a, by rw [List.getElem?_set_ne (Ne.symm n)]; exact e1, fun z => na (hA a z).1, e2.mono (fun _ h => h) go, e4⟩
  · rcases set_get g1 with ⟨z1, _, _⟩ | ⟨n, g1⟩
    · rcases set_get g2 with ⟨z2, _, _⟩ | ⟨n2, g2⟩
      · exact z1.trans z2.symm
      · rw [z1, List.getElem?_set_self hl] at g3
        rw [List.getElem?_set_ne (Ne.symm n2)] at g4
        injection g3 with g3; injection g3 with g3; injection g3 with g3; subst g3
        exact absurd hp (Ow.nA r ⟨l, e', g2, g4⟩)
    · rw [List.getElem?_set_ne (Ne.symm n)] at g3
      rcases set_get g2 with ⟨z2, _, _⟩ | ⟨n2, g2⟩
      · rw [z2, List.getElem?_set_self hl] at g4
        injection g4 with g4; injection g4 with g4; injection g4 with g4; subst g4
        exact absurd hp (Ow.nA r ⟨j, d, g1, g3⟩)
      · rw [List.getElem?_set_ne (Ne.symm n2)] at g4
        exact r.inj j l d e' a g1 g2 g3 g4
  · rcases set_get e with ⟨_, e2, _⟩ | ⟨n, e⟩
    · cases e2
    · obtain ⟨p', q', e1, e2⟩ := r.dr j e
      exact ⟨p', q', e1, by rw [List.getElem?_set_ne (Ne.symm n)]; exact e2⟩
  · have d := r.ds
    unfold DsOk at d ⊢
    simp only
    split at d
    · trivial
    · rename_i e
      exact ⟨d.1, d.2.1, d.2.2.1, hB _ d.2.2.2.1 (fun z => nd ⟨_, _, e, .inl z.symm⟩), hB _ d.2.2.2.2 (fun z => nd ⟨_, _, e, .inr z.symm⟩)⟩
    · exact d.elim
  · obtain ⟨e, n⟩ := r.ce a o cc
    exact ⟨e, fun z => n (sub a z)⟩

/-- the values of a, b, .. = .., .. that wait for their slots; the new lists among them -/
def PendL (K : PySem.W.Frag) (B : Addr → Prop) (H : Hp) : Es → List V → List D → List Addr → Prop
  | .nil, [], [], ps => ps = []
  | .cons e es, v :: vs, d :: ds, ps => (∃ p ps', (fresh e && isL d) = true ∧ ps = p :: ps' ∧ v = .ref p ∧ Obj1 K H B p d ∧ PendL K B H es vs ds ps') ∨ ((fresh e && isL d) = false ∧ Dat K H B v d ∧ PendL K B H es vs ds ps)
  | _, _, _, _ => False
theorem PendL.mono {B B' : Addr → Prop} {H' : Hp} (h : ∀ a o, H a = some o → Seq o → ¬ B a → H' a = some o ∧ ¬ B' a) (hp : ∀ p o, H p = some o → B p → H' p = some o) : ∀ {es : Es} {vs : List V} {ds : List D} {ps : List Addr}, (∀ p ∈ ps, B p) → PendL K B H es vs ds ps → PendL K B' H' es vs ds ps
  | .nil, [], [], ps, _, q => by simpa only [PendL] using q
  | .cons e es, v :: vs, d :: ds, ps, hb, q => by
    simp only [PendL] at q ⊢
    rcases q with ⟨p, ps', h1, rfl, h4, h6, h7⟩ | ⟨h1, h2, h3⟩
    · exact .inl ⟨p, ps', h1, rfl, h4, h6.mono (fun o e => hp p o e (hb p (by simp))) h, PendL.mono h hp (fun p hm => hb p (by simp [hm])) h7⟩
    · exact .inr ⟨h1, Dat.mono h d h2, PendL.mono h hp hb h3⟩
  | .nil, _ :: _, _, _, _, q => by cases ‹List D› <;> simp [PendL] at q
  | .nil, [], _ :: _, _, _, q => by simp [PendL] at q
  | .cons _ _, [], _, _, _, q => by cases ‹List D› <;> simp [PendL] at q
  | .cons _ _, _ :: _, [], _, _, q => by simp [PendL] at q
def hid (Φ : Fm) (ps : List Addr) : Fm := { Φ with A := fun a => Φ.A a ∨ a ∈ ps }
theorem dsok_hid {ps : List Addr} (d : DsOk (hid Φ ps) H δ) (d0 : DsOk Φ H1 δ1) : DsOk Φ H δ := DsOk.back d d0
theorem av_hid {ps : List Addr} {a : Addr} : Av (hid Φ ps) σ ρ a ↔ Av Φ σ ρ a ∨ a ∈ ps := by
  constructor
  · rintro ((z | z) | z)
    · exact .inl (.inl z)
    · exact .inr z
    · exact .inl (.inr z)
  · rintro ((z | z) | z)
    · exact .inl (.inl z)
    · exact .inr z
    · exact .inl (.inr z)
/-- all of them, one behind the other -/
theorem run_pend {Φ0 : Fm} {α : Type} {f : List D → DS → R Fl} (h00 : Φ.H0 = Φ0.H0) (h01 : Φ.W = Φ0.W) (h02 : Φ.dr = Φ0.dr) : ∀ (es : Es) {H : Hp} {δ : DS} {qs : List Addr} {Q : List V → Hp → Prop} {f : List D → DS → R Fl}, Rel K (hid Φ qs) σ H ρ δ → DsOk Φ H1 δ1 → (∀ H δ, DsOk Φ H δ → DsOk Φ0 H δ) → clear ρ (escs es) = true → PostS K Φ0 W Dn σ0 Y ((evs F es ρ δ).bind f) →
    (∀ vs H' ds δ' ps, ps.Nodup → (∀ p ∈ ps, H p = none) → Gr Φ H H' → Rel K (hid Φ (ps ++ qs)) σ H' ρ δ' → PendL K (Av (hid Φ (ps ++ qs)) σ ρ) H' es vs ds ps → PostS K Φ0 W Dn σ0 Y (f ds δ') → Q vs H') → tL F K W es σ H Q
  | .nil, H, δ, qs, Q, f, r, _, _, _, h, k => by
    refine k [] H [] δ [] List.nodup_nil (fun _ z => nomatch z) Gr.refl r ?_ h
    simp [PendL]
  | .cons e es, H, δ, qs, Q, f, r, d0, dd, cl, h, k => by
    simp only [evs] at h
    have cl1 : clear ρ (esc e) = true := by simp only [escs, clear, List.all_append, Bool.and_eq_true] at cl; exact cl.1
    have cl2 : clear ρ (escs es) = true := by simp only [escs, clear, List.all_append, Bool.and_eq_true] at cl; exact cl.2
    refine ⟨hid Φ qs, ρ, δ, r, ?_⟩
    cases qe : ev F e ρ δ with
    | bad => rw [qe] at h; exact h
    | er x δ2 =>
      rw [qe] at h
      intro H' g ds
      refine h σ H' ⟨dd H' δ2 (dsok_hid ds d0), ?_⟩
      have := (r.grow g ds).fr
      intro a o e1 n1 n2
      refine this a o (by show Φ.H0 a = _; rw [h00]; exact e1) (by show ¬ Φ.W a; rw [h01]; exact n1) fun z => n2 ?_
      obtain ⟨p, q, z1, z2⟩ := z
      exact ⟨p, q, by rw [← h02]; exact z1, z2⟩
    | ok d δ2 =>
      rw [qe] at h
      simp only [R.bind_ok] at h
      intro H2 g2 ds2 v dat fr
      have g2' : Gr Φ H H2 := g2
      have r2 := r.grow g2 ds2
      have eqh : ((evs F es ρ δ2).bind fun xs δ => R.ok (d :: xs) δ).bind f = (evs F es ρ δ2).bind fun xs δ => f (d :: xs) δ := by
        cases evs F es ρ δ2 <;> rfl
      rw [eqh] at h
      by_cases hf : (fresh e && isL d) = true
      · have hf2 := hf
        rw [Bool.and_eq_true] at hf2
        · obtain ⟨p, rfl, hp, l1⟩ := fr hf2.1 hf2.2
          obtain ⟨mu, e1⟩ := l1.mu
          have rp : Rel K (hid Φ (p :: qs)) σ H2 ρ δ2 := by
            have := Rel.hideG (Φ := hid Φ qs) r g2 ds2 hp e1
            have ee : ({ hid Φ qs with A := fun a => (hid Φ qs).A a ∨ a = p } : Fm) = hid Φ (p :: qs) := by
              have eA : (fun a => (Φ.A a ∨ a ∈ qs) ∨ a = p) = (fun a => Φ.A a ∨ a ∈ p :: qs) := by
                funext a
                simp only [List.mem_cons]
                exact propext ⟨fun z => z.elim (fun z => z.elim .inl fun z => .inr (.inr z)) fun z => .inr (.inl z), fun z => z.elim (fun z => .inl (.inl z)) fun z => z.elim .inr fun z => .inl (.inr z)⟩
              show ({ Φ with A := fun a => (Φ.A a ∨ a ∈ qs) ∨ a = p } : Fm) = { Φ with A := fun a => Φ.A a ∨ a ∈ p :: qs }
              rw [eA]
            rw [← ee]
            exact this
          refine run_pend h00 h01 h02 (α := α) (f := f) es (qs := p :: qs) rp d0 dd cl2 h fun vs H3 ds δ3 ps nd hn g3 r3 pe q => ?_
          have np : p ∉ ps := fun z => by rw [hn p z] at e1; cases e1
          have pn : ¬ Dr Φ p := fun z => by
            obtain ⟨ys, e⟩ := r.al p (.inl (z.A d0))
            rw [hp] at e; cases e
          have perm : ∀ a, a ∈ ps ++ p :: qs ↔ a ∈ (p :: ps) ++ qs := fun a => by simp only [List.mem_append, List.mem_cons]; exact ⟨fun z => z.elim (fun z => .inl (.inr z)) fun z => z.elim (fun z => .inl (.inl z)) .inr, fun z => z.elim (fun z => z.elim (fun z => .inr (.inl z)) .inl) fun z => .inr (.inr z)⟩
          have eh : hid Φ (ps ++ p :: qs) = hid Φ ((p :: ps) ++ qs) := by
            unfold hid
            congr 1
            funext a
            rw [propext (perm a)]
          refine k _ H3 _ δ3 (p :: ps) (List.nodup_cons.mpr ⟨np, nd⟩) (fun x hx => ?_) (g2'.trans g3) (by rw [← eh]; exact r3) ?_ q
          · rcases List.mem_cons.mp hx with rfl | hx
            · exact hp
            · cases e2 : H x with
              | none => rfl
              | some o =>
                exfalso
                by_cases zd : Dr Φ x
                · obtain ⟨ys, e3⟩ := r2.al x (.inl (zd.A d0))
                  rw [hn x hx] at e3; cases e3
                · have := g2' x o e2 zd
                  rw [hn x hx] at this; cases this
          · simp only [PendL]
            refine .inl ⟨p, ps, hf, rfl, rfl, ?_, ?_⟩
            · refine l1.mono (fun o e => g3 p o e pn) (fun a o e' _ n => ⟨g3 a o e' fun z => n (.inr (.inl (.inl (z.A d0)))), fun z => n ?_⟩)
              rcases av_hid.mp z with z | z
              · exact .inr (av_clear (by
                  unfold clear at cl1 ⊢
                  rw [List.all_eq_true] at cl1 ⊢
                  exact fun i hi => cl1 i (esc1_sub e i hi)) (av_hid.mpr (.inl z)))
              · rcases List.mem_append.mp z with z | z
                · rcases List.mem_cons.mp z with z | z
                  · exact .inl z
                  · rw [hn a z] at e'; cases e'
                · exact .inr (.inl (.inr z))
            · rw [← eh]; exact pe
      · refine run_pend h00 h01 h02 (α := α) (f := f) es (qs := qs) r2 d0 dd cl2 h fun vs H3 ds δ3 ps nd hn g3 r3 pe q => ?_
        refine k _ H3 _ δ3 ps nd (fun x hx => ?_) (g2'.trans g3) r3 ?_ q
        · cases e2 : H x with
          | none => rfl
          | some o =>
            exfalso
            by_cases zd : Dr Φ x
            · obtain ⟨ys, e3⟩ := r2.al x (.inl (zd.A d0))
              rw [hn x hx] at e3; cases e3
            · have := g2' x o e2 zd
              rw [hn x hx] at this; cases this
        · simp only [PendL]
          refine .inr ⟨by simpa using hf, Dat.mono (fun a o e' _ n => ⟨g3 a o e' fun z => n (.inl (.inl (z.A d0))), fun z => n ?_⟩) d dat.dat, pe⟩
          refine av_clear cl1 (av_hid.mpr ?_)
          rcases av_hid.mp z with z | z
          · exact .inl z
          · rcases List.mem_append.mp z with z | z
            · rw [hn a z] at e'; cases e'
            · exact .inr z
/-- .. come into their slots -/
theorem setAll_only : ∀ (ts : List Nat) (vs : List V) (σ : L2.St), SetsOnly σ (setAll σ ts vs) ts
  | [], vs, σ => by cases vs <;> exact SetsOnly.refl
  | i :: ts, [], σ => SetsOnly.refl
  | i :: ts, v :: vs, σ => (SetsOnly.set (by simp)).trans ((setAll_only ts vs _).mono fun j hj => by simp [hj])
theorem stores_rel : ∀ (ts : List Nat) (es : Es) (vs : List V) (ds : List D) (ps : List Addr) {σ : L2.St} {ρ ρ' : Env}, Rel K (hid Φ ps) σ H ρ δ → ps.Nodup → (∀ p ∈ ps, ¬ Φ.A p ∧ ¬ Dr Φ p ∧ (Φ.H0 p = none ∨ Φ.W p)) → PendL K (Av (hid Φ ps) σ ρ) H es vs ds ps → stores ρ ts es ds = some ρ' → Rel K Φ (setAll σ ts vs) H ρ' δ ∧ vs.length = ts.length
  | [], .nil, [], [], ps, σ, ρ, ρ', r, _, _, pe, h => by
    simp only [PendL] at pe
    subst pe
    simp only [stores, Option.some.injEq] at h
    subst h
    have ee : hid Φ [] = Φ := by unfold hid; simp
    rw [ee] at r
    exact ⟨r, rfl⟩
  | i :: ts, .cons e es, v :: vs, d :: ds, ps, σ, ρ, ρ', r, nd, hps, pe, h => by
    simp only [stores] at h
    split at h
    · rename_i hi
      simp only [PendL] at pe
      rcases pe with ⟨p, ps', h1, rfl, rfl, h6, h7⟩ | ⟨h1, h2, h3⟩
      · rw [if_pos h1] at h
        have np := (List.nodup_cons.mp nd).1
        have r' : Rel K (hid Φ ps') (σ.set i (some (.ref p))) H (ρ.set i (.ow d)) δ := by
          refine Rel.unhide (Φ := hid Φ (p :: ps')) (A2 := (hid Φ ps').A) r (.inr (by simp)) (fun a z => ?_) (fun a z n => ?_) (hps p (by simp)).2.1 (hps p (by simp)).2.2 hi h6
          · rcases z with z | z
            · exact ⟨.inl z, fun w => (hps p (by simp)).1 (by rw [← w]; exact z)⟩
            · exact ⟨.inr (by simp [z]), fun w => np (by rw [← w]; exact z)⟩
          · rcases z with z | z
            · exact .inl z
            · rcases List.mem_cons.mp z with z | z
              · exact absurd z n
              · exact .inr z
        have pe' : PendL K (Av (hid Φ ps') (σ.set i (some (.ref p))) (ρ.set i (.ow d))) H es vs ds ps' := by
          refine PendL.mono (fun a o e' _ n => ⟨e', fun z => n ?_⟩) (fun _ _ e' _ => e') (fun x hx => av_hid.mpr (.inr (by simp [hx]))) h7
          rcases z with (z | z) | ⟨j, dj, e1, e2⟩
          · exact .inl (.inl z)
          · exact .inl (.inr (by simp [z]))
          · rcases set_get e1 with ⟨z1, _, _⟩ | ⟨nj, e1⟩
            · rcases set_get e2 with ⟨_, z2, _⟩ | ⟨n2, _⟩
              · injection z2 with z2; injection z2 with z2
                rw [z2]; exact .inl (.inr (by simp))
              · exact absurd z1 n2
            · rcases set_get e2 with ⟨z2, _⟩ | ⟨_, e2⟩
              · exact absurd z2 nj
              · exact .inr ⟨j, dj, e1, e2⟩
        obtain ⟨g1, g2⟩ := stores_rel ts es vs ds ps' r' (List.nodup_cons.mp nd).2 (fun x hx => hps x (by simp [hx])) pe' h
        exact ⟨g1, by simp [g2]⟩
      · rw [if_neg (by simpa using h1)] at h
        have r' := r.setVa (i := i) h2
        obtain ⟨g1, g2⟩ := stores_rel ts es vs ds ps r' nd hps (PendL.mono (fun a o e' _ n => ⟨e', fun z => n (av_set (s := .va d) (fun _ w => by cases w) z)⟩) (fun _ _ e' _ => e') (fun x hx => av_hid.mpr (.inr hx)) h3) h
        exact ⟨g1, by simp [g2]⟩
    · cases h
  | [], .cons _ _, vs, ds, _, _, _, _, _, _, _, pe, h => by simp [stores] at h
  | [], .nil, _ :: _, ds, _, _, _, _, _, _, _, pe, h => by cases ds <;> simp [PendL] at pe
  | [], .nil, [], _ :: _, _, _, _, _, _, _, _, pe, h => by simp [PendL] at pe
  | _ :: _, .nil, vs, ds, _, _, _, _, _, _, _, pe, h => by simp [stores] at h
  | _ :: _, .cons _ _, [], ds, _, _, _, _, _, _, _, pe, h => by cases ds <;> simp [PendL] at pe
  | _ :: _, .cons _ _, _ :: _, [], _, _, _, _, _, _, _, pe, h => by simp [PendL] at pe
/-- the reading of a, b, .. = x, y, .. -/
theorem i_sets {ts : List Nat} {es : Es} (h : tS F K W (.sets ts es) Dn σ H) : tL F K W es σ H fun vs H1 => (∀ H2, Ex H1 H2 → Dn.nx (setAll σ ts vs) H2) ∧ vs.length = ts.length := by
  obtain ⟨Φ, ρ, δ, r, q⟩ := h
  simp only [exec] at q
  have r0 := r.frz (escs es)
  have e0 : hid Φ [] = Φ := by unfold hid; simp
  have cl : clear (frz ρ (escs es)) (escs es) = true := by
    unfold clear
    rw [List.all_eq_true]
    intro i hi
    cases ho : owned (frz ρ (escs es)) i with
    | false => rfl
    | true =>
      unfold owned at ho
      split at ho
      · rename_i d hd
        exact absurd hi (frz_ow _ hd).2
      · cases ho
  refine run_pend (Φ := Φ) (Φ0 := Φ) (α := Unit) (f := fun _ δ => .bad) (ρ := frz ρ (escs es)) rfl rfl rfl es (qs := []) (by rw [e0]; exact r0) r.ds (fun _ _ z => z) cl q fun vs H1 ds δ1 ps nd hn g1 r1 pe q => ?_
  cases hs : stores (frz ρ (escs es)) ts es ds with
  | none => rw [hs] at q; exact q.elim
  | some ρ' =>
    rw [hs] at q
    rw [List.append_nil] at r1 pe
    have hps : ∀ p ∈ ps, ¬ Φ.A p ∧ ¬ Dr Φ p ∧ (Φ.H0 p = none ∨ Φ.W p) := fun p hp => by
      have nA : ¬ Φ.A p := fun z => by
        obtain ⟨ys, e⟩ := r.al p z
        rw [hn p hp] at e; cases e
      have nD : ¬ Dr Φ p := fun z => nA (z.A r.ds)
      refine ⟨nA, nD, ?_⟩
      cases e : Φ.H0 p with
      | none => exact .inl rfl
      | some o =>
        refine .inr (Classical.byContradiction fun nW => ?_)
        have := r.fr p o e nW nD
        rw [hn p hp] at this; cases this
    obtain ⟨g2, g3⟩ := stores_rel ts es vs ds ps r1 nd hps pe hs
    exact ⟨fun H2 ex => q _ _ (g2.grow0 ex) (setAll_only _ _ _), g3⟩
end
end Tk
set_option linter.all false
set_option Elab.async false
set_option maxRecDepth 100000
set_option maxHeartbeats 1000000
namespace Tk
open PySem L2
section
variable {F : Tab} {W : WS} {X : Cx} {c : Ctx} {K : PySem.W.Frag} {Φ : Fm} {σ : L2.St} {H H1 : Hp} {ρ : Env} {δ δ1 : DS} {Dn : Ends}
/-- names as targets -/
def gN (ts : List Nat) : TGs := fun vs σ H Q => vs.length = ts.length ∧ Q (setAll σ ts vs) H
theorem tgNs_ok (G : Good c F X W) : ∀ {ns : List Expr} {ts : List Nat}, tgNs c ns = some ts → PGs X ns (gN ts) ∧ (assignEach ns X.env).length = ts.length ∧ (assignEach ns X.env).findIdx? (·.1) = none ∧ ns.length = ts.length
  | [], ts, h => by
    simp only [tgNs, Option.some.injEq] at h
    subst h
    refine ⟨PGs.imp pgs_nil fun vs σ H Q ⟨h1, h2⟩ => ?_, rfl, rfl, rfl⟩
    cases vs with
    | nil => exact ⟨rfl, h2⟩
    | cons _ _ => simp at h1
  | e :: ns, ts, h => by
    cases e with
    | Name x pos =>
      simp only [tgNs] at h
      split at h
      · rename_i i l h1 h2
        injection h with h; subst h
        obtain ⟨a1, a2, a3⟩ := tg_ok G.N G.sc G.fn h1
        obtain ⟨b1, b2, b3, b4⟩ := tgNs_ok G h2
        refine ⟨PGs.imp (pgs_cons (pg_name G.nd a1 a2 a3) b1 rfl) fun vs σ H Q ⟨h1, h2⟩ => ?_, ?_, ?_, by simp [b4]⟩
        · cases vs with
          | nil => simp at h1
          | cons v vs => exact ⟨v, vs, rfl, by simpa using h1, h2⟩
        · rw [assignEach_cons rfl]; simp [b2]
        · rw [assignEach_cons rfl]
          simp only [List.findIdx?_cons, Bool.false_eq_true, if_false, b3, Option.map_none]
      · cases h
    | _ => simp [tgNs] at h
theorem swp_eq {ns vs : List Expr} {k k2 : Nat} {p p2 : Pos} {env : PySem.Env} {b : Bool} (hk : env.scope.kind = .function) (hv : vs.any (fun | .Starred .. => true | _ => false) = false) (h : swpOK (fun x => env.scope.names.lookup x) ns vs = some b) :
    swappedStores [.Tuple ns k p] (.Tuple vs k2 p2) env = pure (if b then some (swpNames (fun x => env.scope.names.lookup x) ns) else none) := by
  have hb : (env.blockKind != .function) = false := by rw [blockKind_fn hk]; rfl
  unfold swpOK at h
  unfold swappedStores
  simp only [hb, Bool.or_false]
  split at h
  · rename_i h1
    injection h with h; subst h
    exact (if_pos h1).trans rfl
  · rename_i h1
    refine (if_neg h1).trans ?_
    refine (if_neg (show ¬ (vs.any (fun | .Starred .. => true | _ => false) = true) from Bool.eq_false_iff.mp hv)).trans ?_
    split at h
    · rename_i h2
      injection h with h; subst h
      exact (if_pos (show _ = true from h2)).trans rfl
    · rename_i h2
      refine (if_neg (show ¬ _ = true from h2)).trans ?_
      split at h
      · rename_i h3
        injection h with h; subst h
        exact (if_pos h3).trans rfl
      · rename_i h3
        refine (if_neg h3).trans ?_
        split at h
        · cases h
        · rename_i h4
          injection h with h; subst h
          exact (if_neg h4).trans rfl
theorem noStarred {vs : List Expr} {n : Nat} {es : Es} (h : cmpEs c n vs = some es) : vs.any (fun | .Starred .. => true | _ => false) = false := by
  induction n generalizing vs es with
  | zero => simp [cmpEs] at h
  | succ n ih =>
    cases vs with
    | nil => rfl
    | cons v vs =>
      simp only [cmpEs] at h
      split at h
      · rename_i a l h1 h2
        simp only [List.any_cons, ih h2, Bool.or_false]
        have := cmpE_star h1
        cases v <;> first | rfl | cases this
      · cases h
theorem swp_all {lk : Str → Option NameKind} {ns : List Expr} : ∀ {l : List Expr} {ln : Nat}, (l.filterMap fun | .Name id pos => if lk id == some .local && pos.line == ln then some id else none | _ => none).length = l.length → ∀ e ∈ l, ∃ x p, e = .Name x p ∧ lk x = some .local
  | [], ln, _, e, he => by cases he
  | a :: l, ln, h, e, he => by
    have hle : (l.filterMap fun | .Name id pos => if lk id == some .local && pos.line == ln then some id else none | _ => none).length ≤ l.length := List.length_filterMap_le _ _
    rw [List.filterMap_cons] at h
    cases a with
    | Name x p =>
      simp only at h
      by_cases hc : (lk x == some .local && p.line == ln) = true
      · simp only [hc, if_true, List.length_cons] at h
        rcases List.mem_cons.mp he with rfl | he
        · refine ⟨x, p, rfl, ?_⟩
          rw [Bool.and_eq_true] at hc
          exact beq_iff_eq.mp hc.1
        · exact swp_all (ns := ns) (ln := ln) (by omega) e he
      · simp only [hc, if_false] at h
        exfalso
        have h : (l.filterMap fun | .Name id pos => if lk id == some .local && pos.line == ln then some id else none | _ => none).length = l.length + 1 := h
        omega
    | _ =>
      exfalso
      have h : (l.filterMap fun | .Name id pos => if lk id == some .local && pos.line == ln then some id else none | _ => none).length = l.length + 1 := h
      omega
theorem swp_names {lk : Str → Option NameKind} : ∀ {l : List Expr} {ln : Nat}, (l.filterMap fun | .Name id pos => if lk id == some .local && pos.line == ln then some id else none | _ => none).length = l.length → (l.filterMap fun | .Name id pos => if lk id == some .local && pos.line == ln then some id else none | _ => none) = l.map fun | .Name x _ => x | _ => Str.empty
  | [], ln, _ => rfl
  | a :: l, ln, h => by
    have hle : (l.filterMap fun | .Name id pos => if lk id == some .local && pos.line == ln then some id else none | _ => none).length ≤ l.length := List.length_filterMap_le _ _
    rw [List.filterMap_cons] at h ⊢
    cases a with
    | Name x p =>
      simp only at h ⊢
      by_cases hc : (lk x == some .local && p.line == ln) = true
      · simp only [hc, if_true, List.length_cons, List.map_cons] at h ⊢
        rw [swp_names (by omega)]
      · simp only [hc, if_false] at h
        exfalso
        have h : (l.filterMap fun | .Name id pos => if lk id == some .local && pos.line == ln then some id else none | _ => none).length = l.length + 1 := h
        omega
    | _ =>
      exfalso
      have h : (l.filterMap fun | .Name id pos => if lk id == some .local && pos.line == ln then some id else none | _ => none).length = l.length + 1 := h
      omega
theorem tL_mono : ∀ (es : Es) {σ : L2.St} {H : Hp} {Q Q' : List V → Hp → Prop}, (∀ vs H, Q vs H → Q' vs H) → tL F K W es σ H Q → tL F K W es σ H Q'
  | .nil, σ, H, Q, Q', h, q => h _ _ q
  | .cons e es, σ, H, Q, Q', h, q => by
    obtain ⟨Φ, ρ, δ, r, q⟩ := q
    refine ⟨Φ, ρ, δ, r, ?_⟩
    cases qe : ev F e ρ δ with
    | ok d δ1 =>
      rw [qe] at q
      intro H1 g ds v dat fr
      exact tL_mono es (fun vs H q => h _ _ q) (q H1 g ds v dat fr)
    | er _ _ => rw [qe] at q; exact q
    | bad => rw [qe] at q; exact q
theorem tL_len : ∀ (es : Es) {σ : L2.St} {H : Hp} {Q : List V → Hp → Prop}, tL F K W es σ H Q → tL F K W es σ H fun vs H1 => vs.length = es.len ∧ Q vs H1
  | .nil, σ, H, Q, q => ⟨rfl, q⟩
  | .cons e es, σ, H, Q, q => by
    obtain ⟨Φ, ρ, δ, r, q⟩ := q
    refine ⟨Φ, ρ, δ, r, ?_⟩
    cases qe : ev F e ρ δ with
    | ok d δ1 =>
      rw [qe] at q
      intro H1 g ds v dat fr
      exact tL_mono es (fun vs H ⟨h1, h2⟩ => ⟨by simp [Es.len, h1], h2⟩) (tL_len es (q H1 g ds v dat fr))
    | er _ _ => rw [qe] at q; exact q
    | bad => rw [qe] at q; exact q
theorem s_sets {ns vs : List Expr} {ts : List Nat} {es : Es} {k k2 n : Nat} {p p2 pos : Pos} {b : Bool} (hn : n ≤ 1000) (G : GoodS c F X W) (ht : tgNs c ns = some ts) (hv : cmpEs c n vs = some es) (hb : swpOK (fun x => c.sc.names.lookup x) ns vs = some b) (nd : ts.Nodup) :
    PS X (.Assign [.Tuple ns k p] (.Tuple vs k2 p2) pos) (tS F X.K W (.sets ts es)) := by
  have hA := a_raw hn G.toGood hv
  obtain ⟨g1, g2, g3, g4⟩ := tgNs_ok G.toGood ht
  rw [← G.sc] at hb
  have hw := swp_eq (k := k) (k2 := k2) (p := p) (p2 := p2) G.kind (noStarred hv) hb
  have hlen := (cmpEs_ok X hv).2.1
  cases b with
  | false =>
    refine PS.imp (ps_asg (pe_tup hA) (pg_tup G.calm g1 g2 g3) rfl hw rfl) fun Dn σ H q => ?_
    have q := i_sets q
    refine tL_mono es (fun us H1 ⟨hl, q1, q2⟩ => ⟨by rw [hl, sizeLine_eq]; omega, fun q hq => ⟨q, us, rfl, SqT.of upd_same, q2, q2, q1 _ (ex_new hq)⟩⟩) (tL_len es q)
  | true =>
    simp only [if_true] at hw
    have hb2 := hb
    unfold swpOK at hb2
    split at hb2
    · cases hb2
    · rename_i h1
      split at hb2
      · cases hb2
      · rename_i h2
        simp only [Bool.not_eq_true, Bool.or_eq_false_iff, bne_eq_false_iff_eq, Bool.not_eq_false'] at h1 h2
        have nms := swp_names (lk := fun x => X.env.scope.names.lookup x) (l := ns) h2.1
        have all := swp_all (ns := ns) (lk := fun x => X.env.scope.names.lookup x) (l := ns) h2.1
        rw [show swpNames (fun x => X.env.scope.names.lookup x) ns = _ from nms] at hw
        rcases ns with _ | ⟨n1, _ | ⟨n2, _ | ⟨n3, _ | ⟨n4, ns⟩⟩⟩⟩
        · simp at h1
        · simp at h1
        · -- two
          rcases vs with _ | ⟨v1, _ | ⟨v2, _ | ⟨v3, vs⟩⟩⟩ <;> simp at h1
          obtain ⟨x, px, rfl, lx⟩ := all n1 (by simp)
          obtain ⟨y, py, rfl, ly⟩ := all n2 (by simp)
          simp only [tgNs] at ht
          cases hi : tgOf c x with
          | none => rw [hi] at ht; simp at ht
          | some i =>
            cases hj : tgOf c y with
            | none => rw [hi, hj] at ht; simp at ht
            | some j =>
              rw [hi, hj] at ht
              simp only [Option.some.injEq] at ht
              subst ht
              simp only [List.nodup_cons, List.mem_singleton, List.not_mem_nil, not_false_iff, List.nodup_nil, and_true] at nd
              refine PS.imp (ps_par G.calm G.nd (tg_ok G.N G.sc G.fn hi).1 (tg_ok G.N G.sc G.fn hj).1 nd lx ly hA hw rfl) fun Dn σ H q => ?_
              refine tL_mono es (fun us H1 ⟨q1, q2⟩ => ?_) (i_sets q)
              rcases us with _ | ⟨u, _ | ⟨w, _ | ⟨z, us⟩⟩⟩ <;> simp at q2
              exact ⟨u, w, rfl, q1 H1 fun _ _ h => h⟩
        · -- three
          rcases vs with _ | ⟨v1, _ | ⟨v2, _ | ⟨v3, _ | ⟨v4, vs⟩⟩⟩⟩ <;> simp at h1
          obtain ⟨x, px, rfl, lx⟩ := all n1 (by simp)
          obtain ⟨y, py, rfl, ly⟩ := all n2 (by simp)
          obtain ⟨z, pz, rfl, lz⟩ := all n3 (by simp)
          simp only [tgNs] at ht
          cases hi : tgOf c x with
          | none => rw [hi] at ht; simp at ht
          | some i =>
            cases hj : tgOf c y with
            | none => rw [hi, hj] at ht; simp at ht
            | some j =>
              cases hl : tgOf c z with
              | none => rw [hi, hj, hl] at ht; simp at ht
              | some l =>
                rw [hi, hj, hl] at ht
                simp only [Option.some.injEq] at ht
                subst ht
                simp only [List.nodup_cons, List.mem_cons, List.mem_singleton, List.not_mem_nil, not_false_iff, List.nodup_nil, and_true, not_or, or_false] at nd
                refine PS.imp (ps_par3 G.calm G.nd (tg_ok G.N G.sc G.fn hi).1 (tg_ok G.N G.sc G.fn hj).1 (tg_ok G.N G.sc G.fn hl).1 nd.1.1 nd.1.2 nd.2 lx ly lz hA hw rfl) fun Dn σ H q => ?_
                refine tL_mono es (fun us H1 ⟨q1, q2⟩ => ?_) (i_sets q)
                rcases us with _ | ⟨u, _ | ⟨w, _ | ⟨z, _ | ⟨z2, us⟩⟩⟩⟩ <;> simp at q2
                exact ⟨u, w, z, rfl, q1 H1 fun _ _ h => h⟩
        · simp at h1
end
end Tk
set_option linter.all false
set_option Elab.async false
set_option maxRecDepth 100000
set_option maxHeartbeats 1000000
namespace Tk
open PySem L2
/-- an argument list whose place j is the name in slot i -/
def tMc (F : Tab) (K : PySem.W.Frag) (W : WS) (i : Nat) : Nat → Es → TA
  | 0, .cons _ es => tCons (tVar i) (tL F K W es)
  | j + 1, .cons e es => tCons (tD F K W e) (tMc F K W i j es)
  | _, .nil => fun _ _ _ => False
section
variable {F : Tab} {W : WS} {X : Cx} {c : Ctx} {K : PySem.W.Frag} {Φ : Fm} {σ : L2.St} {H H1 : Hp} {ρ : Env} {δ δ1 : DS} {Dn : Ends} {σ0 : L2.St} {Y : List Nat}
theorem a_mc {x : Str} {i : Nat} : ∀ {n j : Nat}, n ≤ 1000 → ∀ {as : List Expr} {es : Es}, Good c F X W → nameAt as j = some x → slotOf c x = some i → cmpEs c n as = some es → PA X as (tMc F X.K W i j es)
  | 0, j, _, as, es, _, _, _, h => by simp [cmpEs] at h
  | n + 1, j, hn, [], es, _, h0, _, h => by cases j <;> simp [nameAt] at h0
  | n + 1, 0, hn, a :: as, es, G, h0, hx, h => by
    simp only [cmpEs] at h
    split at h
    · rename_i a' l' h1 h2
      injection h with h; subst h
      cases a with
      | Name y p =>
        simp only [nameAt, Option.some.injEq] at h0
        subst h0
        obtain ⟨s1, s2, s3, s4⟩ := slot_ok G hx
        exact pa_cons (pe_var s1 s2 s3 s4) (a_raw (by omega) G h2) rfl
      | _ => simp [nameAt] at h0
    · cases h
  | n + 1, j + 1, hn, a :: as, es, G, h0, hx, h => by
    simp only [cmpEs] at h
    split at h
    · rename_i a' l' h1 h2
      injection h with h; subst h
      have h0 : nameAt as j = some x := by cases a <;> simpa [nameAt] using h0
      exact pa_cons ((allOk F n (by omega) c).e G h1).1 (a_mc (by omega) G h0 hx h2) (star1 (cmpE_star h1))
    · cases h
/-- the values of such a list -/
theorem run_L {f : List D → DS → R Fl} : ∀ (es : Es) {H : Hp} {δ : DS} {Q : List V → Hp → Prop} {f : List D → DS → R Fl}, Rel K Φ σ H ρ δ → clear ρ (escs es) = true → PostS K Φ W Dn σ0 Y ((evs F es ρ δ).bind f) →
    (∀ vs H' ds δ', Gr Φ H H' → Rel K Φ σ H' ρ δ' → DatL K H' (Av Φ σ ρ) vs ds → PostS K Φ W Dn σ0 Y (f ds δ') → Q vs H') → tL F K W es σ H Q
  | .nil, H, δ, Q, f, r, _, h, k => k [] H [] δ Gr.refl r DatL.nil h
  | .cons e es, H, δ, Q, f, r, cl, h, k => by
    simp only [evs] at h
    have cl1 : clear ρ (esc e) = true := by simp only [escs, clear, List.all_append, Bool.and_eq_true] at cl; exact cl.1
    have cl2 : clear ρ (escs es) = true := by simp only [escs, clear, List.all_append, Bool.and_eq_true] at cl; exact cl.2
    have eqh : ((ev F e ρ δ).bind fun x δ => (evs F es ρ δ).bind fun xs δ => R.ok (x :: xs) δ).bind f = (ev F e ρ δ).bind fun x δ => (evs F es ρ δ).bind fun xs δ => f (x :: xs) δ := by
      cases ev F e ρ δ with
      | ok x δ =>
        simp only [R.bind_ok]
        cases evs F es ρ δ <;> rfl
      | er _ _ => rfl
      | bad => rfl
    rw [eqh] at h
    refine PostS.bind r h fun v H1 d δ1 r1 g1 q1 _ q => ?_
    refine run_L (f := f) es r1 cl2 q fun vs H2 ds δ2 g2 r2 l2 q => ?_
    refine k (v :: vs) H2 (d :: ds) δ2 (g1.trans g2) r2 (DatL.cons (g2.dat r1.drV ?_) l2) q
    exact Dat.mono (fun a o e _ n => ⟨e, fun z => n (av_clear cl1 z)⟩) d q1.dat
theorem run_Mc {i : Nat} {d0 : D} {a : Addr} (hi : ρ[i]? = some (.ow d0)) (ha : σ[i]? = some (some (.ref a))) : ∀ (j : Nat) (es : Es) {H : Hp} {δ : DS} {Q : List V → Hp → Prop} {f : List D → DS → R Fl}, nameOf es j = some i → Rel K Φ σ H ρ δ → clear ρ (escs (dropAt es j)) = true → PostS K Φ W Dn σ0 Y ((evs F es ρ δ).bind f) →
    (∀ vs H' ds δ', Gr Φ H H' → Rel K Φ σ H' ρ δ' → vs[j]? = some (.ref a) → ds[j]? = some d0 → vs.length = ds.length → (∀ m v d, m ≠ j → vs[m]? = some v → ds[m]? = some d → Dat K H' (Av Φ σ ρ) v d) → PostS K Φ W Dn σ0 Y (f ds δ') → Q vs H') → tMc F K W i j es σ H Q
  | 0, .nil, H, δ, Q, f, hn, _, _, _, _ => by simp [nameOf] at hn
  | j + 1, .nil, H, δ, Q, f, hn, _, _, _, _ => by simp [nameOf] at hn
  | 0, .cons e es, H, δ, Q, f, hn, r, cl, h, k => by
    have ee : e = .v i := by
      cases e <;> simp [nameOf] at hn
      rw [hn]
    subst ee
    simp only [dropAt] at cl
    have ev0 : ev F (.v i) ρ δ = .ok d0 δ := by
      simp only [ev, look, hi]
      rfl
    have eqh : ((evs F (.cons (.v i) es) ρ δ)).bind f = (evs F es ρ δ).bind fun xs δ => f (d0 :: xs) δ := by
      simp only [evs, ev0, R.bind_ok]
      cases evs F es ρ δ <;> rfl
    rw [eqh] at h
    refine ⟨_, ha, run_L (f := f) es r cl h fun vs H2 ds δ2 g2 r2 l2 q => ?_⟩
    refine k _ H2 (d0 :: ds) δ2 g2 r2 rfl rfl (by simp [l2.length]) (fun m v d hm hv hd => ?_) q
    cases m with
    | zero => exact absurd rfl hm
    | succ m =>
      obtain ⟨v', h1, h2⟩ := l2.get (i := m) (d := d) (by simpa using hd)
      have hv : vs[m]? = some v := by simpa using hv
      rw [h1] at hv
      injection hv with hv
      rw [← hv]; exact h2
  | j + 1, .cons e es, H, δ, Q, f, hn, r, cl, h, k => by
    have hn : nameOf es j = some i := by cases e <;> simpa [nameOf] using hn
    simp only [dropAt] at cl
    have cl1 : clear ρ (esc e) = true := by simp only [escs, clear, List.all_append, Bool.and_eq_true] at cl; exact cl.1
    have cl2 : clear ρ (escs (dropAt es j)) = true := by simp only [escs, clear, List.all_append, Bool.and_eq_true] at cl; exact cl.2
    have eqh : (evs F (.cons e es) ρ δ).bind f = (ev F e ρ δ).bind fun x δ => (evs F es ρ δ).bind fun xs δ => f (x :: xs) δ := by
      simp only [evs]
      cases ev F e ρ δ with
      | ok x δ =>
        simp only [R.bind_ok]
        cases evs F es ρ δ <;> rfl
      | er _ _ => rfl
      | bad => rfl
    rw [eqh] at h
    refine PostS.bind r h fun v H1 d δ1 r1 g1 q1 _ q => ?_
    refine run_Mc hi ha j es hn r1 cl2 q fun vs H2 ds δ2 g2 r2 e1 e2 hl hd q => ?_
    refine k (v :: vs) H2 (d :: ds) δ2 (g1.trans g2) r2 (by simpa using e1) (by simpa using e2) (by simp [hl]) (fun m v' d' hm hv hd' => ?_) q
    cases m with
    | zero =>
      simp at hv hd'
      subst hv; subst hd'
      exact g2.dat r1.drV (Dat.mono (fun a o e _ n => ⟨e, fun z => n (av_clear cl1 z)⟩) d q1.dat)
    | succ m => exact hd m v' d' (by omega) (by simpa using hv) (by simpa using hd')
/-- an owned list is written, other things may be new -/
theorem Rel.mutG {H' : Hp} {i : Nat} {a : Addr} {d : D} {xs : List V} {ds : List D} (r : Rel K Φ σ H ρ δ) (hi : ρ[i]? = some (.ow d)) (ha : σ[i]? = some (some (.ref a))) (st : ∀ b o, H b = some o → b ≠ a → H' b = some o) (e' : H' a = some (.lst xs)) (q : DatL K H' (Av Φ σ ρ) xs ds) :
    Rel K Φ σ H' (ρ.set i (.ow (.list ds))) δ := by
  obtain ⟨b, e1, na, e2, e4⟩ := r.ow i d hi
  rw [ha] at e1
  injection e1 with e1; injection e1 with e1; injection e1 with e1; subst e1
  have hl : i < ρ.length := (List.getElem?_eq_some_iff.mp hi).1
  have oa : Av Φ σ ρ a := .inr ⟨i, _, hi, ha⟩
  have sub : ∀ b, Av Φ σ (ρ.set i (.ow (.list ds))) b → Av Φ σ ρ b := fun b z => by
    rcases z with z | ⟨j, d, z1, z2⟩
    · exact .inl z
    · rcases set_get z1 with ⟨w, _, _⟩ | ⟨n, z1⟩
      · subst w; exact .inr ⟨j, _, hi, z2⟩
      · exact .inr ⟨j, d, z1, z2⟩
  have go : ∀ b o, H b = some o → Seq o → ¬ Av Φ σ ρ b → H' b = some o ∧ ¬ Av Φ σ (ρ.set i (.ow (.list ds))) b := fun b o e _ n =>
    ⟨st b o e (fun z => n (by rw [z]; exact oa)), fun z => n (sub b z)⟩
  refine ⟨by simpa using r.len, fun j d e => ?_, fun j d ej => ?_, fun j l d e' b h1 h2 h3 h4 => ?_, fun j e => ?_, ?_, fun b z => ?_, fun b o e n z => ?_, fun w d t => Dat.mono go d (r.tm w d t), fun b o c => ?_⟩
  · rcases set_get e with ⟨_, e2, _⟩ | ⟨n, e⟩
    · cases e2
    · obtain ⟨u, e1, e2⟩ := r.va j d e
      exact ⟨u, e1, Dat.mono go d e2⟩
  · rcases set_get ej with ⟨w1, w2, w3⟩ | ⟨n, ej⟩
    · subst w1
      injection w2 with w2; subst w2
      exact ⟨a, ha, na, ⟨xs, e', DatL.mono (fun b o e _ n => ⟨e, fun z => n (sub b z)⟩) ds q⟩, e4⟩
    · obtain ⟨b, f1, nb, f2, f4⟩ := r.ow j d ej
      have hba : b ≠ a := fun z => n (r.inj j i _ _ a ej hi (by rw [← z]; exact f1) ha)
      exact ⟨b, f1, nb, f2.mono (fun o h => st b o h hba) go, f4⟩
  · have k : ∀ (m : Nat) (d : D), (ρ.set i (.ow (.list ds)))[m]? = some (.ow d) → ∃ d', ρ[m]? = some (.ow d') := fun m d hm => by
      rcases set_get hm with ⟨w, _, _⟩ | ⟨_, hm⟩
      · subst w; exact ⟨_, hi⟩
      · exact ⟨d, hm⟩
    obtain ⟨d1, h1⟩ := k j d h1
    obtain ⟨d2, h2⟩ := k l e' h2
    exact r.inj j l d1 d2 b h1 h2 h3 h4
  · rcases set_get e with ⟨_, e2, _⟩ | ⟨n, e⟩
    · cases e2
    · exact r.dr j e
  · have d := r.ds
    unfold DsOk at d ⊢
    split at d
    · trivial
    · exact ⟨st _ _ d.1 (fun z => na (by rw [← z]; exact d.2.2.2.1)), st _ _ d.2.1 (fun z => na (by rw [← z]; exact d.2.2.2.2)), d.2.2⟩
    · exact d.elim
  · obtain ⟨ys, e⟩ := r.al b z
    exact ⟨ys, st b _ e (fun w => na (by rw [← w]; exact z))⟩
  · refine st b o (r.fr b o e n z) fun w => ?_
    rcases e4 with e4 | e4
    · rw [w, e4] at e; cases e
    · exact n (by rw [w]; exact e4)
  · obtain ⟨e, n⟩ := r.ce b o c
    exact ⟨st b o e (fun z => n (by rw [z]; exact oa)), fun z => n (sub b z)⟩
theorem s_mc {f x : Str} {i j n : Nat} {a : Expr} {as : List Expr} {es : Es} {p cpos pos : Pos} (hn : n ≤ 1000) (G : GoodS c F X W) (hl : c.G.lookup f = some (.mu j)) (gl : Gl X f) (hd : (f == ("__debug__" : Str)) = false) (h0 : nameAt (a :: as) j = some x) (hx : slotOf c x = some i) (he : cmpEs c n (a :: as) = some es) (hno : nameOf es j = some i) :
    PS X (.Expr (.Call (.Name f p) (a :: as) [] cpos) pos) (tS F X.K W (.mc f es)) := by
  obtain ⟨g, k, fa, fd, ps, m, hF, ok, rm, hm, kp, bi, hpl, har⟩ := G.mu f j hl
  have ns := (cmpEs_ok X he).1
  refine PS.imp (ps_expr (pe_callS ok rm gl hm kp bi (fun σ => passAt G.tk σ) (a_mc hn G.toGood h0 hx he) hd ns.1 (noStar_any ns.2)) rfl) fun Dn σ H ⟨Φ, ρ, δ, r, q⟩ => ?_
  simp only [exec, hF, hno] at q
  cases hs : ρ[i]? with
  | none => rw [hs] at q; exact q.elim
  | some sl =>
    rw [hs] at q
    cases sl with
    | ow d0 =>
      cases d0 <;> simp only at q <;> first | exact q.elim | skip
      rename_i ds0
      split at q
      · rename_i cl
        obtain ⟨b, e1, nA, _⟩ := r.ow i _ hs
        refine run_Mc hs e1 j es hno r cl q fun vs H1 ds δ1 g1 r1 v1 v2 hlen hdat q => ?_
        obtain ⟨b', xs', f1, f2, f3, _⟩ := ow_slot r1 hs
        rw [e1] at f1
        injection f1 with f1; injection f1 with f1; injection f1 with f1; subst f1
        by_cases hm' : ds.length = m
        · have eqA : ∀ z, (Φ.A z ∨ (Ow σ ρ z ∧ z ≠ b)) ∨ z = b ↔ Av Φ σ ρ z := fun z => by
            constructor
            · rintro ((w | w) | w)
              · exact .inl w
              · exact .inr w.1
              · rw [w]; exact .inr ⟨i, _, hs, e1⟩
            · rintro (w | w)
              · exact .inl (.inl w)
              · by_cases hz : z = b
                · exact .inr hz
                · exact .inl (.inr ⟨w, hz⟩)
          refine ⟨by rw [hlen]; exact hm', ds, fun z => Φ.A z ∨ (Ow σ ρ z ∧ z ≠ b), b, xs', ds0, v1, v2, fun z hz => ?_, ?_, f2, DatL.mono (fun z o e _ n => ⟨e, fun w => n ((eqA z).mp w)⟩) _ f3, hlen, fun m v d hm hv hd => Dat.mono (fun z o e _ n => ⟨e, fun w => n ((eqA z).mp w)⟩) d (hdat m v d hm hv hd), ?_⟩
          · exact hz.elim (r1.al z) fun hz => Ow.lst r1 hz.1
          · rintro (w | w)
            · exact nA w
            · exact w.2 rfl
          · cases hg : g ds with
            | ok dd =>
              rw [hg] at q
              cases dd with
              | list es' =>
                intro H' ys st e5 l5
                exact q σ H' (r1.mutG hs e1 st e5 (DatL.mono (fun z o e _ n => ⟨e, fun w => n ((eqA z).mpr w)⟩) _ l5)) SetsOnly.refl
              | _ => exact q.elim
            | er e => rw [hg] at q; exact q.elim
            | bad => rw [hg] at q; exact q.elim
        · rw [har ds hm'] at q
          exact q.elim
      · exact q.elim
    | _ => exact q.elim

/-! ### all statements -/
structure SOk (c : Ctx) (F : Tab) (n : Nat) : Prop where
  s : ∀ {X : Cx} {W : WS} {s : Stmt} {S' : S}, GoodS c F X W → cmpS c n s = some S' → PS X s (tS F X.K W S')
  ss : ∀ {X : Cx} {W : WS} {l : List Stmt} {S' : S}, GoodS c F X W → cmpSs c n l = some S' → PSs X l (tS F X.K W S')
theorem ok_ss {n : Nat} (ih : SOk c F n) {l : List Stmt} {S' : S} (G : GoodS c F X W) (h : cmpSs c (n + 1) l = some S') : PSs X l (tS F X.K W S') := by
  cases l with
  | nil => simp [cmpSs] at h; subst h; exact ss_nil
  | cons s l =>
    simp only [cmpSs] at h
    split at h
    · rename_i a b h1 h2
      injection h with h; subst h
      exact ss_cons (ih.s G h1) (ih.ss G h2)
    · cases h
theorem ok_s {n : Nat} (hn : n ≤ 1000) (ih : SOk c F n) {s : Stmt} {S' : S} (G : GoodS c F X W) (h : cmpS c (n + 1) s = some S') : PS X s (tS F X.K W S') := by
  have E := fun {e E'} (h : cmpE c n e = some E') => (allOk F n (by omega) c).e G.toGood h
  cases s with
  | Pass pos => simp [cmpS] at h; subst h; exact s_sk
  | Return v pos =>
    simp only [cmpS] at h
    split at h
    · rename_i e
      cases he : cmpE c n e with
      | none => rw [he] at h; cases h
      | some E' =>
        rw [he] at h
        injection h with h; subst h
        exact s_ret (E he).1
    · cases h
  | Expr e pos =>
    simp only [cmpS] at h
    split at h
    · rename_i f as ks cpos
      split at h
      · rename_i o nm apos
        split at h
        · rename_i hc
          simp only [Bool.and_eq_true, decide_eq_true_eq] at hc
          obtain ⟨⟨h1, h2⟩, h3⟩ := hc
          subst h1
          cases ks with
          | cons _ _ => cases h2
          | nil =>
            split at h
            · rename_i x px
              split at h
              · rename_i a
                split at h
                · rename_i i a' g1 g2
                  injection h with h; subst h
                  exact s_app G g1 (E g2).1 (cmpE_star g2) h3
                · cases h
              · cases h
            · cases h
        · cases h
      · rename_i f p
        split at h
        · rename_i hg
          obtain ⟨g1, g2⟩ := gl_ok G.toGood hg
          split at h
          · rename_i j hl
            split at h
            · rename_i hc
              simp only [Bool.and_eq_true] at hc
              cases ks with
              | cons _ _ => cases hc.1
              | nil =>
                cases as with
                | nil => cases hc.2
                | cons a as =>
                  split at h
                  · rename_i x hx
                    split at h
                    · rename_i i es hs he
                      split at h
                      · rename_i hno
                        injection h with h; subst h
                        exact s_mc hn G hl g1 g2 hx hs he hno
                      · cases h
                    · cases h
                  · cases h
            · cases h
          · cases he : cmpE c n (.Call (.Name f p) as ks cpos) with
            | none => rw [he] at h; cases h
            | some E' =>
              rw [he] at h
              injection h with h; subst h
              exact s_ex (E he).1 rfl
        · cases h
      · cases h
    · cases h
  | If t a b pos =>
    simp only [cmpS] at h
    split at h
    · rename_i t' a' b' h1 h2 h3
      injection h with h; subst h
      exact s_if (E h1).2 (ih.ss G h2) (ih.ss G h3)
    · cases h
  | While t b o pos =>
    simp only [cmpS] at h
    split at h
    · split at h
      · rename_i t' b' h1 h2
        injection h with h; subst h
        exact s_wh G (E h1).2 (ih.ss G h2)
      · cases h
    · cases h
  | For tg it b o pos =>
    simp only [cmpS] at h
    split at h
    · split at h
      · rename_i t' i' b' h1 h2 h3
        injection h with h; subst h
        obtain ⟨g1, g2⟩ := (allOk F n (by omega) c).i G.toGood h2
        exact s_for G g1 g2 ((g_ok G.N G.sc G.fn G.nd G.calm n).1 tg t' h1) (ih.ss G h3)
      · cases h
    · cases h
  | Assign ts e pos =>
    simp only [cmpS] at h
    split at h
    · rename_i t
      split at h
      · rename_i x px
        split at h
        · rename_i i e' h1 h2
          injection h with h; subst h
          exact s_set hn G h1 h2
        · cases h
      · rename_i ns k p
        split at h
        · rename_i vs k2 p2
          split at h
          · rename_i ts es b h1 h2 h3
            split at h
            · rename_i hnd
              injection h with h; subst h
              exact s_sets hn G h1 h2 h3 (of_decide_eq_true hnd)
            · cases h
          · cases h
        · rename_i hne
          split at h
          · cases h
          · rename_i hc
            split at h
            · rename_i t' e' h1 h2
              injection h with h; subst h
              refine s_unp ((g_ok G.N G.sc G.fn G.nd G.calm n).1 _ t' h1) rfl (E h2).1 (by simpa using hc) ?_
              cases e <;> first | rfl | exact absurd rfl (hne _ _ _)
            · cases h
      · rename_i o k p
        split at h
        · cases h
        · rename_i hns
          split at h
          · rename_i x px
            split at h
            · rename_i i k' e' h1 h2 h3
              injection h with h; subst h
              exact s_sti G h1 (E h2).1 (by simpa using hns) (E h3).1
            · cases h
          · cases h
      · cases h
    · cases h
  | AugAssign t o e pos =>
    simp only [cmpS] at h
    split at h
    · rename_i x px
      split at h
      · split at h
        · rename_i i e' h1 h2
          injection h with h; subst h
          exact s_aug G h1 (E h2).1
        · cases h
      · cases h
    · cases h
  | Raise x f pos =>
    simp only [cmpS] at h
    split at h
    · split at h
      · rename_i y py m j p2 p3
        split at h
        · rename_i hg
          obtain ⟨g1, g2⟩ := gl_ok G.toGood hg
          split at h
          · rename_i hl
            injection h with h; subst h
            exact s_rai G hl g1 g2
          · cases h
        · cases h
      · cases h
    · cases h
  | _ => simp [cmpS] at h
theorem sOk (F : Tab) : ∀ (n : Nat), n ≤ 1001 → ∀ c : Ctx, SOk c F n
  | 0, _, c => ⟨fun _ h => by simp [cmpS] at h, fun _ h => by simp [cmpSs] at h⟩
  | n + 1, hn, c => ⟨fun G h => ok_s (by omega) (sOk F n (by omega) c) G h, fun G h => ok_ss (sOk F n (by omega) c) G h⟩
end
end Tk
set_option linter.all false
set_option Elab.async false
set_option maxRecDepth 100000
set_option maxHeartbeats 1000000
/-! TkTry: try: found = e / except C as n: m = n, the exception kept behind the clause. -/
namespace Tk
open PySem L2 PySem.Spec PyProof.Rows

/-- an exception of a class, kept -/
def ExK (cls : Value) (a : Addr) : HO := .ext fun h => ∃ (o : Obj) (fs : Array Value), h.get? a = some o ∧ Zc cls none o ∧ o.data = .fields fs
theorem exK_ok {P : Program} {w : World} {H : Hp} {h : Heap} {a : Addr} {cls : Value} {o : Obj} {fs : Array Value} (e : h.get? a = some o) (z : Zc cls none o) (d : o.data = .fields fs) : ObjOk P w H h a (ExK cls a) :=
  ⟨⟨o, fs, e, z, d⟩, ⟨o, e⟩, fun h1 h2 ⟨o1, f1, g1, g2, g3⟩ k => ⟨o1, f1, k o1 g1, g2, g3⟩⟩
theorem keepEx {X : Cx} {pins : List (Addr × Obj)} {σ : L2.St} {H : Hp} {s : Shared} {a : Addr} {ob : HO} (I : Inv X pins σ H s) (n0 : X.s_0.heap.get? a = none) (nH : H a = none) (nL : a ≠ X.env.locals)
    (nC : ∀ x c, X.env.cells.lookup x = some c → c ≠ a) (nP : ∀ p ∈ X.pn ++ pins, p.1 ≠ a) (new : ObjOk X.prog X.w (upd H a ob) s.heap a ob) : Inv X pins σ (upd H a ob) s := by
  have ne : ∀ b u, H b = some u → b ≠ a := fun b u e z => by rw [z, nH] at e; cases e
  have up : ∀ b u, H b = some u → upd H a ob b = some u := fun b u e => by rw [upd_ne (ne b u e)]; exact e
  refine ⟨I.ok, I.os, I.bare, ⟨I.base.keep, I.base.slot, fun b o e1 e2 e3 => ?_, I.base.there, fun b xs e1 => up _ _ (I.base.tups b xs e1), fun b o u e1 => up _ _ (I.base.frzs b o u e1), fun b ps e1 => ?_⟩, I.loc, I.cell, ?_, fun x c e1 => ?_, fun p hp => ?_, fun b u e1 => ?_, I.len⟩
  · rw [upd_ne (fun z => by rw [z, n0] at e1; cases e1)]
    exact I.base.free b o e1 e2 e3
  · obtain ⟨more, e2⟩ := I.base.tbls b ps e1
    exact ⟨more, up _ _ e2⟩
  · rw [upd_ne (Ne.symm nL)]
    exact I.free
  · rw [upd_ne (nC x c e1)]
    exact I.freeC x c e1
  · obtain ⟨g1, g2, g3⟩ := I.pin p hp
    exact ⟨g1, by rw [upd_ne (nP p hp)]; exact g2, g3⟩
  · by_cases hb : b = a
    · rw [hb, upd_same] at e1
      cases e1
      rw [hb]
      exact new
    · rw [upd_ne hb] at e1
      exact (I.hok b u e1).stay (fun c v _ q => q) (fun c q => up c _ q) fun c _ q => up c _ q
/-- what the clause wishes of an exception of the body -/
def wKeep (K : PySem.W.Frag) (c : Value) (n i j : Nat) (Dn : Ends) : WX := fun cls d σ H =>
  PySem.W.exmOne K cls c = some true ∧ d = none ∧ ∀ a, H a = none → σ.length = n → Dn.nx (((σ.set i (some (.ref a))).set j (some (.ref a))).set i none) (upd H a (ExK cls a))
theorem ps_keep {X : Cx} {x n m : Str} {c : Value} {i j : Nat} {body : List Stmt} {np mp nq ap pos pos' : Pos} {tb : WX → TS} (hs : X.stack = X.env :: X.outer) (hf : X.env.frame = some X.env.locals) (hex : X.ex = []) (hN : X.N.Nodup)
    (hi : X.N[i]? = some n) (hln : X.env.kindOf n = some .local) (hvn : Vis X.env.scope n) (hdn : (n == ("__debug__" : Str)) = false) (hcn : (n == ("__classdict__" : Str)) = false) (hj : X.N[j]? = some m) (hlm : X.env.kindOf m = some .local) (hc : Names X x c)
    (hb : ∀ (W : WX) (pn : List (Addr × Obj)) (xe : Value → Shared → Prop), Takes (X.tr pn xe) W → PassesOwn (model X.prog X.w) X.A X.env xe → PSs (X.tr pn xe) body (tb W)) :
    PS X (.Try body [.ExceptHandler (some (.Name x np)) (some n) [.Assign [.Name m mp] (.Name n nq) ap] pos'] [] [] pos) (fun D σ H => tb (wKeep X.K c X.N.length i j D) D σ H) := by
  refine ⟨fun pins s σ H D I h => ?_⟩
  have ok := I.ok
  have hframes : X.A.frames = some (X.env :: X.outer) := by rw [ok.frames, hs]
  refine wpAny_Try_except ?_
  let after : Value → Shared → Prop := fun e s₁ => wpAny (model X.prog X.w) X.A (noteFrame e X.env) (fun _ s₂ => wpAny (model X.prog X.w) X.A (setFlight e none) (fun _ s₃ =>
    wpAny (model X.prog X.w) X.A (handleBy e X.env [.ExceptHandler (some (.Name x np)) (some n) [.Assign [.Name m mp] (.Name n nq) ap] pos']) (SP X pins D) X.xe s₃) X.xe s₂) X.xe s₁
  refine wpAny_mono ((hb (wKeep X.K c X.N.length i j D) (X.pn ++ pins) after (fun u s' xx => ?_) PassesOwn.looking).run [] s σ H D (I.toTry _) h) (fun f s1 hsp => ?_) (fun e s1 he => he)
  · obtain ⟨a, B, sI, qs, σ1, H1, cls, d, rfl, J0, nb, up, sky, na, os, ag, hm1, rfl, goal⟩ := xx
    have J : Inv X pins σ1 H1 sI := J0.ofTry ok
    have sky1 : Sky B (X.env :: X.outer) a (Zc cls none) X.env.locals s'.heap := by rw [← hs]; exact sky
    show wpAny (model X.prog X.w) X.A (noteFrame (.ref a) X.env) _ _ _
    refine Sky.land Zc.steady hframes hf sky1 fun h3 fl3 up3 => ?_
    have J3 : Inv X pins σ1 H1 { s' with heap := h3 } := J.landed nb fl3.1 (up.trans up3) os ag
    have nfr : a ∉ frs (X.env :: X.outer) := fun hm => by
      obtain ⟨oe, vs, he, _, hd⟩ := fl3.there
      obtain ⟨_, o', e', hnf⟩ := fl3.2.2.1.mem hm
      rw [he] at e'; cases e'
      exact hnf _ hd
    have nI : sI.heap.get? a = none := by
      cases e : sI.heap.get? a with
      | none => rfl
      | some o =>
        have := nb a o e (by rw [hs]; exact nfr)
        rw [fl3.2.1] at this; cases this
    have n0 : X.s_0.heap.get? a = none := by
      cases e : X.s_0.heap.get? a with
      | none => rfl
      | some o =>
        obtain ⟨o', e'⟩ := J.base.there a o e (by rw [hex]; simp)
        rw [nI] at e'; cases e'
    have nC : ∀ x c, X.env.cells.lookup x = some c → c ≠ a := fun x c e z => by
      obtain ⟨v, o, q, _⟩ := J.cell x c e
      rw [z, nI] at q; cases q
    have nP : ∀ p ∈ X.pn ++ pins, p.1 ≠ a := fun p hp z => by
      have q := (J.pin p hp).1
      rw [z, nI] at q; cases q
    have nL : a ≠ X.env.locals := fun z => nfr (List.mem_filterMap.mpr ⟨X.env, List.mem_cons_self, by rw [hf, z]⟩)
    have nF : a ∉ X.fs := fun hm => by
      obtain ⟨e, he, q⟩ := List.mem_filterMap.mp hm
      exact nfr (List.mem_filterMap.mpr ⟨e, List.mem_cons_of_mem _ he, q⟩)
    obtain ⟨oe3, vs3, he3, hz3, hd3⟩ := fl3.there
    have S3 := J3.suite he3 hd3 na nL nF
    refine wpAny_handleBy_cons (codeAny_handlers_test ?_) (by intro q; cases q)
    have LT : PySem.W.Looks (model X.prog X.w) h3 (typeOf (.ref a)) cls := fun A Q E s k q => wpAny_typeOf_ref (k _ _ he3) (by rw [hz3.1]; exact q)
    have LM := PySem.W.exm_one (M := model X.prog X.w) (J3.kIn) LT hm1
    have test : ∀ {Q : Value → Shared → Prop} {E : Value → Shared → Prop}, Q c { s' with heap := h3 } → wpAny (model X.prog X.w) (X.A.mark (some (.ref a))) (eval (.Name x np) X.env) Q E { s' with heap := h3 } := fun {Q E} q => by
      obtain ⟨k1, k2, k3 | ⟨k3, k4, k5⟩⟩ := hc
      · exact ld_glob (X := X.suite a ((a, oe3) :: (X.pn ++ pins))) S3 k1 k3 q k2
      · exact ld_blt (X := X.suite a ((a, oe3) :: (X.pn ++ pins))) S3 k1 k3 k4 q k5 k2
    refine test (LM.here ?_)
    refine codeAny_handlers_suite_as ?_
    refine HandSPX.lands_againZ fl3 fun h4 fl4 up4 => ?_
    have J4 : Inv X pins σ1 H1 { s' with heap := h4 } := J.landed nb fl4.1 ((up.trans up3).trans up4) os ag
    obtain ⟨oe4, vs4, he4, hz4, hd4⟩ := fl4.there
    have S4 := J4.suite he4 hd4 na nL nF
    have li : i < σ1.length := by rw [J.len]; exact (List.getElem?_eq_some_iff.mp hi).1
    refine store_ok (X := X.suite a ((a, oe4) :: (X.pn ++ pins))) (v := .ref a) S4 hN hi (.inl hln) rfl (fun s5 S5 => ?_) (.inr hln)
    have ps1 : PSs (X.suite a ((a, oe4) :: (X.pn ++ pins))) [.Assign [.Name m mp] (.Name n nq) ap] (tAsg (tVar i) (gName j)) :=
      pss_one (ps_asg (pe_var hi hvn hdn hcn) (pg_name hN hj (.inl hlm) (.inr hlm)))
    refine wpAny_mono (ps1.run [] s5 _ H1 { nx := fun σ' H' => σ' = (σ1.set i (some (.ref a))).set j (some (.ref a)) ∧ H' = H1, rt := fun _ _ => False } S5 ⟨.ref a, by rw [List.getElem?_set_self li], rfl, rfl⟩) (fun f s6 hsp => ?_) (fun _ _ z => False.elim z)
    cases f with
    | next =>
      obtain ⟨σ6, H6, S6, rfl, rfl⟩ := hsp
      refine gone_ok (X := X.suite a ((a, oe4) :: (X.pn ++ pins))) S6 hN hi hln fun s7 S7 => ?_
      have g7 := (S7.pin (a, oe4) (List.mem_append.mpr (.inl List.mem_cons_self))).1
      exact ⟨_, _, keepEx (S7.unsuite ok) n0 na nL nC nP (exK_ok g7 hz4 hd4), goal a na J.len⟩
    | brk => obtain ⟨_, _, _, z⟩ := hsp; exact z.elim
    | cont => obtain ⟨_, _, _, z⟩ := hsp; exact z.elim
    | ret u => obtain ⟨_, _, _, _, _, z⟩ := hsp; exact z.elim
  · cases f with
    | next =>
      obtain ⟨σ2, H2, J2, q⟩ := hsp
      exact wpAny_execs_nil ⟨σ2, H2, J2.ofTry ok, q⟩
    | brk =>
      obtain ⟨σ2, H2, J2, q⟩ := hsp
      exact ⟨σ2, H2, J2.ofTry ok, q⟩
    | cont =>
      obtain ⟨σ2, H2, J2, q⟩ := hsp
      exact ⟨σ2, H2, J2.ofTry ok, q⟩
    | ret u =>
      obtain ⟨v, σ2, H2, J2, r, q⟩ := hsp
      exact ⟨v, σ2, H2, J2.ofTry ok, r, q⟩
end Tk
set_option linter.all false
set_option Elab.async false
set_option maxRecDepth 100000
set_option maxHeartbeats 1000000
namespace Tk
open PySem L2
/-- what is known of the names of the module, at level k -/
structure TabOk (P : Program) (w : World) (K : PySem.W.Frag) (mg : Str → Option Value) (base : Heap) (G : List (Str × GK)) (F : Tab) (k : Nat) : Prop where
  bl : ∀ b ∈ blts, G.lookup b = none → mg b = none
  co : ∀ x d, G.lookup x = some (.co d) → ∃ u v, mg x = some u ∧ RelV v u ∧ ∀ H A, Dat K H A v d
  pu : ∀ x, G.lookup x = some .pu → ∃ g f fd ps n, F x = some (.pu g) ∧ FnOk P w K mg base (L2.CX P w) k f fd ps (spP K mg n g) ∧ mg x = some (.ref f) ∧ PySem.W.keepIn K (.ref f) = true ∧ Binds K fd ps [] ∧ ps.length = n ∧ ∀ ds, ds.length ≠ n → g ds = .bad
  pf : ∀ x, G.lookup x = some .pf → ∃ g f fd ps n, F x = some (.pu g) ∧ FnOk P w K mg base (L2.CX P w) k f fd ps (spF K mg n g) ∧ mg x = some (.ref f) ∧ PySem.W.keepIn K (.ref f) = true ∧ Binds K fd ps [] ∧ ps.length = n ∧ ∀ ds, ds.length ≠ n → g ds = .bad
  dw : ∀ x, G.lookup x = some .dw → ∃ g f fd ps n, F x = some (.dw g) ∧ FnOk P w K mg base (L2.CX P w) k f fd ps (spD K n g) ∧ mg x = some (.ref f) ∧ PySem.W.keepIn K (.ref f) = true ∧ Binds K fd ps [] ∧ ps.length = n + 1 ∧ ∀ ds q, ds.length ≠ n → g ds q = .bad
  mu : ∀ x j, G.lookup x = some (.mu j) → ∃ g f fd ps n, F x = some (.mu j g) ∧ FnOk P w K mg base (L2.CX P w) k f fd ps (spM K n j g) ∧ mg x = some (.ref f) ∧ PySem.W.keepIn K (.ref f) = true ∧ Binds K fd ps [] ∧ ps.length = n ∧ ∀ ds, ds.length ≠ n → g ds = .bad
  ec : ∀ x, G.lookup x = some .ec → ∃ C, mg x = some (.ref C) ∧ PySem.W.excIn K C He.veBase "ValueError.__new__" = true ∧ PySem.W.keepIn K (.ref C) = true ∧ PySem.W.subIn K (.ref C) (.type "BaseException") = some true ∧ PySem.W.typeIn K (.ref C) = some (.type "type")
def ctx (N : List Str) (sc : Scope) (G : List (Str × GK)) : Ctx := { N := N, sc := sc, fnc := fun _ => true, G := G }
def WE0 (mg : Str → Option Value) (E : XK) : WS := fun e _ H => ∀ C, mg e = some (.ref C) → E (.ref C) none H
section
variable {P : Program} {w : World} {K : PySem.W.Frag} {mg : Str → Option Value} {base : Heap} {G : List (Str × GK)} {F : Tab} {k : Nat} {N ps : List Str} {qual x : Str} {params : Arguments} {body : List Stmt} {scope : Scope} {f : Addr} {fd : FuncData} {S' : S}
theorem good_def (T : TabOk P w K mg base G F k) (sc : FnScope N ps scope) {cdv : Value} {A : Around} {outer : List PySem.Env} {s : Shared} {H : Hp} {E : XK} (hr : Room k (A.deeper (PyProof.Rows.envOfC qual scope s.heap.objs.size f cdv))) :
    GoodS (ctx N scope G) F (cxOf (L2.CX P w) P w K mg base N qual scope f cdv A outer s H E) (WE0 mg E) where
  N := rfl
  sc := rfl
  fn := rfl
  nd := sc.nd
  calm := rfl
  kind := sc.kind
  un := by
    have := hr.un
    show (A.deeper (PyProof.Rows.envOfC qual scope s.heap.objs.size f cdv)).units + 65 < cLine
    omega
  bl := T.bl
  co := T.co
  pu := fun x h => let ⟨g, f, fd, ps, n, h1, h2, h3⟩ := T.pu x h; ⟨g, k, f, fd, ps, n, h1, h2, hr, h3⟩
  pf := fun x h => let ⟨g, f, fd, ps, n, h1, h2, h3⟩ := T.pf x h; ⟨g, k, f, fd, ps, n, h1, h2, hr, h3⟩
  dw := fun x h => let ⟨g, f, fd, ps, n, h1, h2, h3⟩ := T.dw x h; ⟨g, k, f, fd, ps, n, h1, h2, hr, h3⟩
  mu := fun x j h => let ⟨g, f, fd, ps, n, h1, h2, h3⟩ := T.mu x j h; ⟨g, k, f, fd, ps, n, h1, h2, hr, h3⟩
  tk := (takes_of rfl rfl rfl rfl).imp fun cls d σ H ⟨e, C, h1, h2, h3, h4⟩ => by
    subst h2; subst h3
    exact h4 C h1
  po := passes_of rfl
  ex := fun x h => let ⟨C, h1, h2, h3, h4, h5⟩ := T.ec x h; ⟨C, h1, h2, h3, raises_own h4 h5⟩
/-- the first state of a frame -/
def fm0 (A : Addr → Prop) (H : Hp) (W : Addr → Prop) (dr : Option (Addr × Addr)) : Fm := { A := A, H0 := H, W := W, dr := dr, T := fun _ _ => False, C := fun _ _ => False }
theorem enter_get {n : Nat} {ds : List D} {i : Nat} : (enter n ds)[i]? = if i < ds.length then (ds[i]?).map Slot.va else if i < ds.length + (n - ds.length) then some .no else none := by
  unfold enter
  by_cases h : i < ds.length
  · rw [if_pos h, List.getElem?_append_left (by simpa using h), List.getElem?_map]
  · rw [if_neg h, List.getElem?_append_right (by simpa using Nat.le_of_not_lt h)]
    by_cases h2 : i < ds.length + (n - ds.length)
    · rw [if_pos h2, List.getElem?_replicate, if_pos (by simp; omega)]
    · rw [if_neg h2, List.getElem?_replicate, if_neg (by simp; omega)]
theorem enter_no_ow {n : Nat} {ds : List D} {i : Nat} {d : D} : (enter n ds)[i]? ≠ some (.ow d) := fun h => by
  rw [enter_get] at h
  split at h
  · cases e : ds[i]? with
    | none => rw [e] at h; cases h
    | some _ => rw [e] at h; cases h
  · split at h <;> cases h
theorem enter_no_dr {n : Nat} {ds : List D} {i : Nat} : (enter n ds)[i]? ≠ some .dr := fun h => by
  rw [enter_get] at h
  split at h
  · cases e : ds[i]? with
    | none => rw [e] at h; cases h
    | some _ => rw [e] at h; cases h
  · split at h <;> cases h
theorem enter_va {n : Nat} {ds : List D} {i : Nat} {d : D} (h : (enter n ds)[i]? = some (.va d)) : ds[i]? = some d := by
  rw [enter_get] at h
  split at h
  · cases e : ds[i]? with
    | none => rw [e] at h; cases h
    | some d' =>
      rw [e] at h
      simp at h
      rw [h]
  · split at h <;> cases h
theorem start_get {vs : List V} {i : Nat} {v : V} (h : vs[i]? = some v) : (L2.start N vs)[i]? = some (some v) := by
  unfold L2.start
  have hl : i < vs.length := (List.getElem?_eq_some_iff.mp h).1
  rw [List.getElem?_append_left (by simpa using hl), List.getElem?_map, h]
  rfl
theorem start_len {vs : List V} : (L2.start N vs).length = vs.length + (N.length - vs.length) := by simp [L2.start]
theorem enter_len {n : Nat} {ds : List D} : (enter n ds).length = ds.length + (n - ds.length) := by simp [enter]
theorem rel0 {A : Addr → Prop} {H : Hp} {vs : List V} {ds : List D} (al : ∀ a, A a → ∃ m : Mu, H a = some m.o) (l : DatL K H A vs ds) : Rel K (fm0 A H (fun _ => False) none) (L2.start N vs) H (enter N.length ds) none := by
  refine ⟨by rw [start_len, enter_len, l.length], fun i d e => ?_, fun i d e => absurd e enter_no_ow, fun i j d e a h => absurd h enter_no_ow, fun i e => absurd e enter_no_dr, trivial, al, fun a o e _ _ => e, fun _ _ h => h.elim, fun _ _ h => h.elim⟩
  obtain ⟨v, e1, e2⟩ := l.get (enter_va e)
  refine ⟨v, start_get e1, Dat.mono (fun a o e' _ n => ⟨e', fun z => ?_⟩) d e2⟩
  rcases z with z | ⟨j, d', z1, _⟩
  · exact n z
  · exact enter_no_ow z1
/-- a def that changes nothing -/
theorem ok_pu (T : TabOk P w K mg base G F k) (Fd : FunD K x qual params body scope [] [] f fd) (sc : FnScope N ps scope) (hN : ps.length ≤ N.length) {n : Nat} (hn : n ≤ 1001) (h : cmpSs (ctx N scope G) n body = some S') :
    FnOk P w K mg base (L2.CX P w) (k + 1) f fd ps (spP K mg ps.length (runP F ps.length N.length S')) := by
  refine Fd.ok sc (fun vs H Q E h => h.1) fun cdv A outer s H vs Q E hr hsp => ⟨_, (sOk F n hn _).ss (good_def T sc hr) h, ?_⟩
  obtain ⟨hl, ds, A', al, dat, m⟩ := hsp
  have hds : ds.length = ps.length := by rw [← dat.length]; exact hl
  refine ⟨fm0 A' H (fun _ => False) none, enter N.length ds, none, rel0 al dat, ?_⟩
  unfold runP at m
  rw [if_pos hds] at m
  have ex : ∀ {H' δ'}, EndOk (fm0 A' H (fun _ => False) none) H' δ' → Ex H H' := fun h a o e => h.2 a o e (fun z => z) (fun ⟨_, _, z, _⟩ => nomatch z)
  cases qe : exec F S' (enter N.length ds) none with
  | ok fl δ1 =>
    rw [qe] at m
    cases fl with
    | nx ρ' => exact fun σ' H' r' _ => m .non H' (ex r'.end_) (by simp [Dat])
    | rt d => exact fun v H' e dd => m v H' (ex e) dd
  | er c δ1 =>
    rw [qe] at m
    exact fun σ' H' e C hC => m C H' hC (ex e)
  | bad => rw [qe] at m; exact m
/-- a def that returns a new list -/
theorem ok_pf {e : Expr} {rp : Pos} {E' : E} (T : TabOk P w K mg base G F k) (Fd : FunD K x qual params [.Return (some e) rp] scope [] [] f fd) (sc : FnScope N ps scope) (hN : ps.length ≤ N.length) {n : Nat} (hn : n ≤ 1001) (h : cmpE (ctx N scope G) n e = some E') (hf : fresh E' = true) :
    FnOk P w K mg base (L2.CX P w) (k + 1) f fd ps (spF K mg ps.length (runP F ps.length N.length (.sq (.ret E') .sk))) := by
  refine Fd.ok sc (fun vs H Q E h => h.1) fun cdv A outer s H vs Q E hr hsp => ⟨_, pss_cons (ps_ret ((allOk F n hn _).e (good_def T sc hr).toGood h).1) pss_nil, ?_⟩
  obtain ⟨hl, ds, A', al, dat, m⟩ := hsp
  have hds : ds.length = ps.length := by rw [← dat.length]; exact hl
  have r0 := rel0 (N := N) al dat
  unfold runP at m
  rw [if_pos hds] at m
  have ex : ∀ {H' δ'}, EndOk (fm0 A' H (fun _ => False) none) H' δ' → Ex H H' := fun h a o e => h.2 a o e (fun z => z) (fun ⟨_, _, z, _⟩ => nomatch z)
  refine ⟨fm0 A' H (fun _ => False) none, enter N.length ds, none, r0, ?_⟩
  simp only [exec] at m
  cases qe : ev F E' (enter N.length ds) none with
  | ok d δ1 =>
    rw [qe] at m
    intro H' g ds' v dd fr
    have r1 := r0.grow g ds'
    refine m v H' (ex r1.end_) (Dat.mono (fun a o e _ n => ⟨e, fun z => n (.inl z)⟩) d dd.dat) fun il => ?_
    obtain ⟨p, e1, e2, e3⟩ := fr hf il
    exact ⟨p, e1, e2, e3.mono (fun _ h => h) fun a o e _ n => ⟨e, fun z => n (z.elim .inl fun z => .inr (.inl z))⟩⟩
  | er c δ1 =>
    rw [qe] at m
    exact fun H' g ds' C hC => m C H' hC (ex (r0.grow g ds').end_)
  | bad => rw [qe] at m; exact m
/-- a def with the draws -/
theorem ok_dw (T : TabOk P w K mg base G F k) (Fd : FunD K x qual params body scope [] [] f fd) (sc : FnScope N ps scope) {m : Nat} (hm : ps.length = m + 1) (hN : ps.length ≤ N.length) {n : Nat} (hn : n ≤ 1001) (h : cmpSs (ctx N scope G) n body = some S') :
    FnOk P w K mg base (L2.CX P w) (k + 1) f fd ps (spD K m (runD F m N.length S')) := by
  refine Fd.ok sc (fun vs H Q E h => by rw [h.1, hm]) fun cdv A outer s H vs Q E hr hsp => ⟨_, (sOk F n hn _).ss (good_def T sc hr) h, ?_⟩
  obtain ⟨hl, us, ds, A', p, q, ns, i0, rfl, al, dat, hp, hq, hpq, Ap, Aq, mm⟩ := hsp
  have hds : ds.length = m := by
    have := dat.length
    simp only [List.length_cons] at hl
    omega
  unfold runD at mm
  rw [if_pos hds] at mm
  have el : (N.length - (us.length + 1)) = (N.length - 1) - us.length := by omega
  have es : L2.start N (.ref p :: us) = some (.ref p) :: L2.start (N.drop 1) us := by
    unfold L2.start
    simp only [List.map_cons, List.length_cons, List.cons_append, List.length_drop, el]
  have r : Rel K (fm0 A' H (fun _ => False) (some (p, q))) (L2.start N (.ref p :: us)) H (.dr :: enter (N.length - 1) ds) (some (ns, i0)) := by
    have no : ∀ (i : Nat) (d : D), (.dr :: enter (N.length - 1) ds : Env)[i]? ≠ some (.ow d) := fun i d e => by
      cases i with
      | zero => cases e
      | succ i => exact enter_no_ow (by simpa using e)
    refine ⟨?_, fun i d e => ?_, fun i d e => absurd e (no i d), fun i j d e a h => absurd h (no i d), fun i e => ?_, ⟨hp, hq, hpq, Ap, Aq⟩, al, fun a o e _ _ => e, fun _ _ h => h.elim, fun _ _ h => h.elim⟩
    · rw [es]
      simp only [List.length_cons]
      rw [start_len, enter_len, dat.length, List.length_drop]
    · rw [es]
      cases i with
      | zero => cases e
      | succ i =>
        obtain ⟨v, e1, e2⟩ := dat.get (enter_va (by simpa using e))
        refine ⟨v, by simpa using start_get e1, Dat.mono (fun a o e' _ n => ⟨e', fun z => ?_⟩) d e2⟩
        rcases z with z | ⟨j, d', z1, _⟩
        · exact n z
        · exact no j d' z1
    · rw [es]
      cases i with
      | zero => exact ⟨p, q, rfl, rfl⟩
      | succ i => exact absurd (show (enter (N.length - 1) ds)[i]? = some .dr by simpa using e) enter_no_dr
  refine ⟨fm0 A' H (fun _ => False) (some (p, q)), _, _, r, ?_⟩
  have fin : ∀ {H' ns' i'}, EndOk (fm0 A' H (fun _ => False) (some (p, q))) H' (some (ns', i')) → (∀ a o, H a = some o → a ≠ p → a ≠ q → H' a = some o) ∧ H' p = some (.lst [.ref q, .int i']) ∧ H' q = some (.lst (ns'.map V.int)) := fun {H' ns' i'} h => by
    have d := h.1
    refine ⟨fun a o e n1 n2 => h.2 a o e (fun z => z) fun ⟨p', q', z1, z2⟩ => ?_, d.1, d.2.1⟩
    have z1 : some (p, q) = some (p', q') := z1
    injection z1 with z1; injection z1 with z1 z3
    subst z1; subst z3
    exact z2.elim n1 n2
  cases qe : exec F S' (.dr :: enter (N.length - 1) ds) (some (ns, i0)) with
  | ok fl δ1 =>
    rw [qe] at mm
    cases δ1 with
    | none =>
      cases fl with
      | nx _ => exact mm.elim
      | rt _ => exact mm.elim
    | some q1 =>
      obtain ⟨ns', i'⟩ := q1
      cases fl with
      | nx ρ' =>
        intro σ' H' r' _
        obtain ⟨f1, f2, f3⟩ := fin r'.end_
        exact mm .non H' f1 f2 f3 (by simp [Dat])
      | rt d =>
        intro v H' e dd
        obtain ⟨f1, f2, f3⟩ := fin e
        exact mm v H' f1 f2 f3 dd
  | er c δ1 => rw [qe] at mm; exact mm.elim
  | bad => rw [qe] at mm; exact mm.elim
/-- a def that writes its argument j -/
theorem ok_mu (T : TabOk P w K mg base G F k) (Fd : FunD K x qual params body scope [] [] f fd) (sc : FnScope N ps scope) {j : Nat} (hj : j < ps.length) (hN : ps.length ≤ N.length) {n : Nat} (hn : n ≤ 1001) (h : cmpSs (ctx N scope G) n body = some S') :
    FnOk P w K mg base (L2.CX P w) (k + 1) f fd ps (spM K ps.length j (runM F ps.length N.length S' j)) := by
  refine Fd.ok sc (fun vs H Q E h => h.1) fun cdv A outer s H vs Q E hr hsp => ⟨_, (sOk F n hn _).ss (good_def T sc hr) h, ?_⟩
  obtain ⟨hl, ds, A', a, xs, es, vj, dj, al, nA, ha, la, hlen, hd, mm⟩ := hsp
  have hds : ds.length = ps.length := by omega
  have hjd : j < ds.length := by omega
  unfold runM at mm
  by_cases hasg : (asg S').contains j = true
  · rw [if_neg (by rw [hasg]; simp)] at mm
    exact mm.elim
  · have hc : (asg S').contains j = false := by simpa using hasg
    rw [if_pos (by rw [hc]; simp [hds]), dj] at mm
    simp only at mm
    let ρ0 : Env := (enter N.length ds).set j (.ow (.list es))
    have hel : j < (enter N.length ds).length := by rw [enter_len]; omega
    have sj : (L2.start N vs)[j]? = some (some (.ref a)) := start_get vj
    have ow : ∀ (i : Nat) (d : D), ρ0[i]? = some (.ow d) → i = j ∧ d = .list es := fun i d e => by
      rcases set_get e with ⟨h1, h2, _⟩ | ⟨_, e⟩
      · injection h2 with h2
        exact ⟨h1, h2⟩
      · exact absurd e enter_no_ow
    have av : ∀ z, Av (fm0 A' H (fun b => b = a) none) (L2.start N vs) ρ0 z → A' z ∨ z = a := fun z w => by
      rcases w with w | ⟨i, d, w1, w2⟩
      · exact .inl w
      · obtain ⟨rfl, _⟩ := ow i d w1
        rw [sj] at w2
        injection w2 with w2; injection w2 with w2; injection w2 with w2
        exact .inr w2.symm
    have va : ∀ z, A' z ∨ z = a → Av (fm0 A' H (fun b => b = a) none) (L2.start N vs) ρ0 z := fun z w => by
      rcases w with w | w
      · exact .inl w
      · exact .inr ⟨j, _, List.getElem?_set_self hel, by rw [w]; exact sj⟩
    have r : Rel K (fm0 A' H (fun b => b = a) none) (L2.start N vs) H ρ0 none := by
      refine ⟨by rw [start_len]; show _ = ((enter N.length ds).set j _).length; rw [List.length_set, enter_len, hlen], fun i d e => ?_, fun i d e => ?_, fun i l d e' b h1 h2 _ _ => ?_, fun i e => ?_, trivial, al, fun b o e _ _ => e, fun _ _ h => h.elim, fun _ _ h => h.elim⟩
      · rcases set_get e with ⟨_, h2, _⟩ | ⟨nj, e⟩
        · cases h2
        · have hdi := enter_va e
          have hi : i < vs.length := by
            have := (List.getElem?_eq_some_iff.mp hdi).1
            omega
          have hvi : vs[i]? = some vs[i] := List.getElem?_eq_getElem hi
          exact ⟨vs[i], start_get hvi, Dat.mono (fun b o e' _ n => ⟨e', fun z => n (av b z)⟩) d (hd i _ d nj hvi hdi)⟩
      · obtain ⟨rfl, rfl⟩ := ow i d e
        exact ⟨a, sj, nA, ⟨xs, ha, DatL.mono (fun b o e' _ n => ⟨e', fun z => n (av b z)⟩) es la⟩, .inr rfl⟩
      · exact (ow i d h1).1.trans (ow l e' h2).1.symm
      · rcases set_get e with ⟨_, h2, _⟩ | ⟨_, e⟩
        · cases h2
        · exact absurd e enter_no_dr
    refine ⟨fm0 A' H (fun b => b = a) none, ρ0, none, r, ?_⟩
    cases qe : exec F S' ρ0 none with
    | ok fl δ1 =>
      have qe' : exec F S' ((enter N.length ds).set j (.ow (.list es))) none = .ok fl δ1 := qe
      rw [qe'] at mm
      cases fl with
      | nx ρ' =>
        intro σ' H' r' so
        simp only [outM] at mm
        cases hs : ρ'[j]? with
        | none => rw [hs] at mm; exact mm.elim
        | some sl =>
          rw [hs] at mm
          cases sl with
          | ow d =>
            cases d <;> first | exact mm.elim | skip
            rename_i es'
            obtain ⟨b, e1, n1, ⟨ys, e2, e3⟩, e4⟩ := r'.ow j _ hs
            have hsj : σ'[j]? = some (some (.ref a)) := by
              rw [so.2 j (fun z => hasg (by simpa using z))]
              exact sj
            rw [e1] at hsj
            injection hsj with hsj; injection hsj with hsj; injection hsj with hsj; subst hsj
            refine mm H' ys (fun z o e nz => r'.fr z o e (fun w => nz w) fun ⟨_, _, w, _⟩ => nomatch w) e2 (DatL.mono (fun z o e _ n => ⟨e, fun w => n ?_⟩) es' e3)
            rcases w with w | w
            · exact .inl w
            · exact .inr ⟨j, _, hs, by rw [w]; exact e1⟩
          | _ => exact mm.elim
      | rt d => exact mm.elim
    | er c δ1 =>
      have qe' : exec F S' ((enter N.length ds).set j (.ow (.list es))) none = .er c δ1 := qe
      rw [qe'] at mm; exact mm.elim
    | bad =>
      have qe' : exec F S' ((enter N.length ds).set j (.ow (.list es))) none = .bad := qe
      rw [qe'] at mm; exact mm.elim
end
end Tk
set_option linter.all false
set_option Elab.async false
set_option maxRecDepth 100000
set_option maxHeartbeats 1000000
namespace Tk
open PySem L2
section
variable {P : Program} {w : World} {K : PySem.W.Frag} {mg : Str → Option Value} {base : Heap} {k : Nat} {qual x : Str} {params : Arguments} {scope : Scope} {f : Addr} {fd : FuncData}
theorem pvN {X : Cx} {N : List Str} (i : Nat) {x : Str} {pos : Pos} (hX : X.N = N) (hN : N[i]? = some x) (hv : ∀ x ∈ N, X.env.scope.names.lookup x = some .local) (hd : (x == ("__debug__" : Str)) = false := by decide +kernel) (hcd : (x == ("__classdict__" : Str)) = false := by decide +kernel) : PE X (.Name x pos) (tVar i) :=
  pe_var (by rw [hX]; exact hN) (.inl (hv x (List.mem_of_getElem? hN))) hd hcd
abbrev drawN : List Str := ["draws", "limit", "numbers", "at", "cell", "mixed"]
theorem atI_mod {ns : List Int} {n : Int} (h : ns ≠ []) : atI (ns.map V.int) (n % (ns.length : Int)) = some (.int (ns.getD (n % (ns.length : Int)).toNat 0)) ∧ ixN (ns.map V.int).length (n % (ns.length : Int)) = some (n % (ns.length : Int)).toNat ∧ (n % (ns.length : Int)).toNat < ns.length := by
  have hl : 0 < ns.length := List.length_pos_iff.mpr h
  have h1 : 0 ≤ n % (ns.length : Int) := Int.emod_nonneg _ (by omega)
  have h2 : n % (ns.length : Int) < ns.length := Int.emod_lt_of_pos _ (by omega)
  have h3 : (n % (ns.length : Int)).toNat < ns.length := by omega
  have h4 : ixN (ns.map V.int).length (n % (ns.length : Int)) = some (n % (ns.length : Int)).toNat := by
    unfold ixN
    rw [List.length_map, if_pos h1, if_pos h2]
  refine ⟨?_, h4, h3⟩
  unfold atI
  rw [h4]
  simp only [Option.bind_some, List.getElem?_map, List.getElem?_eq_getElem h3, Option.map_some, List.getD_eq_getElem?_getD, Option.getD_some]
theorem ok_draw {p1 p2 p3 p4 p5 p6 p7 p8 p9 p10 p11 p12 p13 p14 p15 p16 p17 p18 p19 p20 p21 p22 p23 p24 p25 p26 p27 p28 p29 p30 p31 p32 p33 p34 p35 p36 p37 p38 p39 p40 p41 p42 p43 p44 p45 p46 p47 p48 p49 p50 p51 p52 p53 p54 p55 p56 p57 p58 p59 p60 p61 p62 p63 p64 p65 p66 p67 p68 p69 p70 p71 p72 p73 p74 p75 : Pos} {k1 k2 k3 k4 k5 k6 k7 k8 k9 k10 k11 k12 k13 k14 k15 : Nat}
    (Fd : FunD K x qual params [.Assign [(.Name "numbers" p1)] (.Subscript (.Name "draws" p2) (.Constant (.int 0) k1 p3) p4) p5,
    .Assign [(.Subscript (.Name "draws" p6) (.Constant (.int 1) k2 p7) p8)] (.BinOp (.Subscript (.Name "draws" p9) (.Constant (.int 1) k3 p10) p11) .Add (.Constant (.int 1) k4 p12) p13) p14,
    .Assign [(.Name "at" p15)] (.BinOp (.Subscript (.Name "draws" p16) (.Constant (.int 1) k5 p17) p18) .Mod (.Call (.Name "len" p19) [(.Name "numbers" p20)] [] p21) p22) p23,
    .Assign [(.Name "cell" p24)] (.Subscript (.Name "numbers" p25) (.Name "at" p26) p27) p28,
    .If (.Compare (.Name "cell" p29) [.GtE] [(.Constant (.int 1000000000000000000) k6 p30)] p31) [.Assign [(.Subscript (.Name "numbers" p32) (.Name "at" p33) p34)] (.BinOp (.Name "cell" p35) .FloorDiv (.Name "limit" p36) p37) p38, .Return (some (.BinOp (.Name "cell" p39) .Mod (.Name "limit" p40) p41)) p42] [] p43,
    .Assign [(.Name "mixed" p44)] (.BinOp (.BinOp (.Name "cell" p45) .Add (.BinOp (.Constant (.int 104729) k7 p46) .Mult (.Subscript (.Name "draws" p47) (.Constant (.int 1) k8 p48) p49) p50) p51) .Mod (.Constant (.int 4294967291) k9 p52) p53) p54,
    .Assign [(.Name "mixed" p55)] (.BinOp (.BinOp (.Name "mixed" p56) .Pow (.Constant (.int 5) k10 p57) p58) .Mod (.Constant (.int 4294967279) k11 p59) p60) p61,
    .Return (some (.BinOp (.BinOp (.BinOp (.BinOp (.BinOp (.BinOp (.Name "mixed" p62) .FloorDiv (.Constant (.int 64) k12 p63) p64) .Mult (.Constant (.int 69621) k13 p65) p66) .Add (.Name "mixed" p67) p68) .Mod (.Constant (.int 4294967231) k14 p69) p70) .FloorDiv (.Constant (.int 8) k15 p71) p72) .Mod (.Name "limit" p73) p74)) p75] scope [] [] f fd)
    (sc : FnScope drawN ["draws", "limit"] scope) (hv : ∀ x ∈ drawN, scope.names.lookup x = some .local) (hlen : scope.names.lookup ("len" : Str) = some .globalImplicit) (mlen : mg ("len" : Str) = none) :
    FnOk P w K mg base (L2.CX P w) 1 f fd ["draws", "limit"] (spD K 1 M_law_draw) := by
  refine Fd.ok sc (fun vs H Q E h => h.1) fun cdv A outer s H vs Q E hr hsp => ?_
  have v := fun (i : Nat) {x : Str} {pos : Pos} (h : drawN[i]? = some x) (hd : (x == ("__debug__" : Str)) = false) (hcd : (x == ("__classdict__" : Str)) = false) => pvN (X := cxOf (L2.CX P w) P w K mg base drawN qual scope f cdv A outer s H E) (N := drawN) i (x := x) (pos := pos) rfl h hv hd hcd
  have lo : ∀ {x : Str}, x ∈ drawN → Loc scope x := fun h => .inl (hv _ h)
  refine ⟨_, pss_cons (ps_set (i := 2) sc.nd rfl (lo (by decide +kernel)) (pe_ix ix_list (v 0 rfl (by decide +kernel) (by decide +kernel)) pe_int (fun _ _ => rfl)) rfl (.inl rfl))
    (pss_cons (ps_asg (pe_op op_add (pe_ix ix_list (v 0 rfl (by decide +kernel) (by decide +kernel)) pe_int (fun _ _ => rfl)) pe_int) (pg_sub (v 0 rfl (by decide +kernel) (by decide +kernel)) pe_int set_list (fun _ => rfl)) rfl rfl rfl)
    (pss_cons (ps_set (i := 3) sc.nd rfl (lo (by decide +kernel)) (pe_op op_mod (pe_ix ix_list (v 0 rfl (by decide +kernel) (by decide +kernel)) pe_int (fun _ _ => rfl)) (pe_callB call_len_seq hlen mlen boot_len (pa_cons (v 2 rfl (by decide +kernel) (by decide +kernel)) pa_nil rfl) (by decide +kernel) (by decide +kernel) rfl rfl)) rfl (.inl rfl))
    (pss_cons (ps_set (i := 4) sc.nd rfl (lo (by decide +kernel)) (pe_ix ix_list (v 2 rfl (by decide +kernel) (by decide +kernel)) (v 3 rfl (by decide +kernel) (by decide +kernel)) (fun _ _ => rfl)) rfl (.inl rfl))
    (pss_cons (ps_if (pt_cmpR op_ge (v 4 rfl (by decide +kernel) (by decide +kernel)) pe_int (nomark _))
        (pss_cons (ps_asg (pe_op op_fdiv (v 4 rfl (by decide +kernel) (by decide +kernel)) (v 1 rfl (by decide +kernel) (by decide +kernel))) (pg_sub (v 2 rfl (by decide +kernel) (by decide +kernel)) (v 3 rfl (by decide +kernel) (by decide +kernel)) set_list (fun _ => rfl)) rfl rfl rfl) (pss_one (ps_ret (pe_op op_mod (v 4 rfl (by decide +kernel) (by decide +kernel)) (v 1 rfl (by decide +kernel) (by decide +kernel)))))) pss_nil)
    (pss_cons (ps_set (i := 5) sc.nd rfl (lo (by decide +kernel)) (pe_op op_mod (pe_op op_add (v 4 rfl (by decide +kernel) (by decide +kernel)) (pe_op op_mul pe_int (pe_ix ix_list (v 0 rfl (by decide +kernel) (by decide +kernel)) pe_int (fun _ _ => rfl)))) pe_int) rfl (.inl rfl))
    (pss_cons (ps_set (i := 5) sc.nd rfl (lo (by decide +kernel)) (pe_op op_mod (pe_op op_pow (v 5 rfl (by decide +kernel) (by decide +kernel)) pe_int) pe_int) rfl (.inl rfl))
    (pss_one (ps_ret (pe_op op_mod (pe_op op_fdiv (pe_op op_mod (pe_op op_add (pe_op op_mul (pe_op op_fdiv (v 5 rfl (by decide +kernel) (by decide +kernel)) pe_int) pe_int) (v 5 rfl (by decide +kernel) (by decide +kernel))) pe_int) pe_int) (v 1 rfl (by decide +kernel) (by decide +kernel))))))))))), ?_⟩
  obtain ⟨hl, us, ds, A', p, q, ns, m, rfl, al, dat, hp, hq, hpq, Ap, Aq, mm⟩ := hsp
  rcases us with _ | ⟨u, _ | ⟨u2, us⟩⟩ <;> simp at hl
  rcases ds with _ | ⟨d, _ | ⟨d2, ds⟩⟩
  · simp [DatL] at dat
  · simp only [DatL, and_true] at dat
    cases d with
    | int limit =>
      simp only [Dat] at dat
      subst dat
      simp only [M_law_draw] at mm
      by_cases hc : 0 < limit ∧ limit < 1073741824 ∧ ns ≠ []
      · rw [if_pos hc] at mm
        obtain ⟨c1, c2, c3⟩ := hc
        obtain ⟨g1, g2, g3⟩ := atI_mod (n := m + 1) c3
        have hH2p : upd H p (.lst [.ref q, .int (m + 1)]) p = some (.lst [.ref q, .int (m + 1)]) := upd_same
        have hH2q : upd H p (.lst [.ref q, .int (m + 1)]) q = some (.lst (ns.map V.int)) := by rw [upd_ne (Ne.symm hpq)]; exact hq
        -- numbers = draws[0]
        refine ⟨_, rfl, p, _, 0, .ref q, rfl, rfl, SqL.of hp, rfl, ?_⟩
        -- draws[1] = draws[1] + 1
        refine ⟨_, rfl, p, _, 1, .int m, rfl, rfl, SqL.of hp, rfl, m, 1, rfl, rfl, _, rfl, p, [.ref q, .int m], 1, 1, rfl, rfl, hp, rfl, ?_⟩
        -- at = draws[1] % len(numbers)
        refine ⟨_, rfl, p, _, 1, .int (m + 1), rfl, rfl, SqL.of hH2p, rfl, _, rfl, q, _, rfl, .inl (SqL.of hH2q), m + 1, ((ns.map V.int).length : Int), rfl, rfl, by rw [List.length_map]; exact Int.natCast_pos.mpr (List.length_pos_iff.mpr c3), ?_⟩
        rw [List.length_map]
        -- cell = numbers[at]
        refine ⟨_, rfl, _, rfl, q, _, _, _, rfl, rfl, SqL.of hH2q, g1, ?_⟩
        -- if
        refine ⟨_, rfl, _, _, rfl, rfl, _, rfl, ?_⟩
        by_cases hbig : (1000000000000000000 : Int) ≤ ns.getD ((m + 1) % (ns.length : Int)).toNat 0
        · rw [if_pos hbig] at mm
          rw [if_pos (decide_eq_true hbig)]
          refine ⟨_, rfl, _, rfl, _, _, rfl, rfl, ⟨c1, c2⟩, _, rfl, _, rfl, q, _, _, _, rfl, rfl, hH2q, g2, ?_⟩
          refine ⟨_, rfl, _, rfl, _, _, rfl, rfl, c1, ?_⟩
          refine mm _ _ (fun a o e n1 n2 => ?_) ?_ ?_ (by simp [Dat])
          · rw [upd_ne n2, upd_ne n1]; exact e
          · rw [upd_ne hpq]; exact upd_same
          · rw [upd_same, List.map_set]
        · rw [if_neg hbig] at mm
          rw [if_neg (by simpa using hbig)]
          have m1 : ∀ (x c : Int), 0 < c → 0 ≤ x % c := fun x c h => Int.emod_nonneg _ (by omega)
          -- mixed
          refine ⟨_, rfl, _, rfl, p, _, 1, .int (m + 1), rfl, rfl, SqL.of hH2p, rfl, _, _, rfl, rfl, .inl ⟨by decide, by decide⟩, _, _, rfl, rfl, _, _, rfl, rfl, (show (0:Int) < _ by decide), ?_⟩
          -- ** 5
          refine ⟨_, rfl, _, _, rfl, rfl, ⟨by decide, by decide, ?_⟩, _, _, rfl, rfl, (show (0:Int) < _ by decide), ?_⟩
          · have h1 := Int.emod_nonneg (ns.getD ((m + 1) % (ns.length : Int)).toNat 0 + 104729 * (m + 1)) (show (4294967291 : Int) ≠ 0 by decide)
            have h2 := Int.emod_lt_of_pos (ns.getD ((m + 1) % (ns.length : Int)).toNat 0 + 104729 * (m + 1)) (show (0 : Int) < 4294967291 by decide)
            omega
          -- return
          refine ⟨_, rfl, _, _, rfl, rfl, ⟨by decide, by decide⟩, _, _, rfl, rfl, .inr ⟨by decide, by decide⟩, _, rfl, _, _, rfl, rfl, _, _, rfl, rfl, (show (0:Int) < _ by decide), _, _, rfl, rfl, ⟨by decide, by decide⟩, _, rfl, _, _, rfl, rfl, c1, ?_⟩
          refine mm _ _ (fun a o e n1 n2 => ?_) ?_ ?_ (by simp [Dat])
          · rw [upd_ne n1]; exact e
          · exact upd_same
          · exact hH2q
      · rw [if_neg hc] at mm
        exact mm.elim
    | _ => exact mm.elim
  · simp [DatL] at dat

/-- the draws laid out -/
def spS (K : PySem.W.Frag) : Sp := fun vs H Q _ => ∃ (a : Addr) (ns : List Int), vs = [.ref a] ∧ SqL K H a (ns.map V.int) ∧ ∀ p q H', p ≠ q → H' p = some (.lst [.ref q, .int 0]) → H' q = some (.lst ((if ns = [] then [0] else ns).map V.int)) → Q (.ref p) H'
theorem dpInts {H : Hp} : ∀ (ns : List Int), DpAll K H (ns.map V.int) (ns.map PyData.int)
  | [] => .nil
  | n :: ns => .cons (.int n) (dpInts ns)
theorem shapedInts (ns : List Int) : SeqAt.shaped (.list (ns.map PyData.int)) = true := by
  have h1 : ∀ ns : List Int, PyData.canLayAll0 (ns.map PyData.int) = true := fun ns => by
    induction ns with
    | nil => rfl
    | cons n ns ih => simpa [PyData.canLayAll0, PyData.canLay0] using ih
  have h2 : ∀ ns : List Int, PyData.depthAll (ns.map PyData.int) = 0 := fun ns => by
    induction ns with
    | nil => rfl
    | cons n ns ih => simp [PyData.depthAll, PyData.depth, ih]
  simp [SeqAt.shaped, PyData.canLay0, PyData.depth, h1, h2]
theorem ok_start {p1 p2 p3 p4 p5 p6 p7 p8 p9 p10 p11 p12 : Pos} {k1 k2 : Nat}
    (Fd : FunD K x qual params [.Return (some (.List [(.IfExp (.Compare (.Name "script" p1) [.NotEq] [(.List [] p2)] p3) (.Call (.Name "list" p4) [(.Name "script" p5)] [] p6) (.List [(.Constant (.int 0) k1 p7)] p8) p9), (.Constant (.int 0) k2 p10)] p11)) p12] scope [] [] f fd)
    (sc : FnScope ["script"] ["script"] scope) (hv : ∀ x ∈ (["script"] : List Str), scope.names.lookup x = some .local) (hlist : scope.names.lookup ("list" : Str) = some .globalImplicit) (mlist : mg ("list" : Str) = none) :
    FnOk P w K mg base (L2.CX P w) 1 f fd ["script"] (spS K) := by
  refine Fd.ok sc (fun vs H Q E h => by obtain ⟨a, ns, rfl, _⟩ := h; rfl) fun cdv A outer s H vs Q E hr hsp => ?_
  have hu : (cxOf (L2.CX P w) P w K mg base ["script"] qual scope f cdv A outer s H E).A.units + 64 < cLine := by
    have := hr.un
    show (A.deeper (PyProof.Rows.envOfC qual scope s.heap.objs.size f cdv)).units + 64 < cLine
    omega
  have v := fun (i : Nat) {x : Str} {pos : Pos} (h : (["script"] : List Str)[i]? = some x) (hd : (x == ("__debug__" : Str)) = false) (hcd : (x == ("__classdict__" : Str)) = false) => pvN (X := cxOf (L2.CX P w) P w K mg base ["script"] qual scope f cdv A outer s H E) (N := ["script"]) i (x := x) (pos := pos) rfl h hv hd hcd
  refine ⟨_, pss_one (ps_ret (pe_lst (pa_cons (pe_ifExp (pt_cmpR (op_neD hu) (v 0 rfl (by decide +kernel) (by decide +kernel)) (pe_lst pa_nil) (nomark _)) (pe_callTy call_list_of hlist mlist PyProof.Rows.boot_list (pa_cons (v 0 rfl (by decide +kernel) (by decide +kernel)) pa_nil rfl) (by decide +kernel) (by decide +kernel) rfl rfl) (pe_lst (pa_cons pe_int pa_nil rfl))) (pa_cons pe_int pa_nil rfl) rfl))), ?_⟩
  obtain ⟨a, ns, rfl, hS, hQ⟩ := hsp
  refine ⟨_, rfl, Nat.zero_le _, fun e he => ?_⟩
  have hS1 : SqL K (upd H e (.lst [])) a (ns.map V.int) := by
    rcases hS with (h | ⟨o, h⟩) | h
    · exact .inl (.inl (by rw [upd_ne (fun z => by rw [z, he] at h; cases h)]; exact h))
    · exact .inl (.inr ⟨o, by rw [upd_ne (fun z => by rw [z, he] at h; cases h)]; exact h⟩)
    · exact .inr h
  refine ⟨.list (ns.map PyData.int), .list [], .lst hS1 (dpInts ns), .lst (SqL.of upd_same) .nil, shapedInts ns, rfl, _, rfl, ?_⟩
  have fin : ∀ q H1, H1 q = some (.lst ((if ns = [] then [0] else ns).map V.int)) → (2 : Nat) ≤ sizeLine ∧ ∀ p, H1 p = none → Q (.ref p) (upd H1 p (.lst [.ref q, .int 0])) := fun q H1 e1 => ⟨by decide, fun p hp => by
    have ne : p ≠ q := fun z => by rw [z, e1] at hp; cases hp
    exact hQ p q _ ne upd_same (by rw [upd_ne (Ne.symm ne)]; exact e1)⟩
  cases ns with
  | nil =>
    refine (if_neg (by decide)).mpr ?_
    exact ⟨by decide, fun q hq => fin q _ upd_same⟩
  | cons n ns =>
    refine (if_pos (by simp [PyData.eqv, PyData.eqvAll])).mpr ?_
    refine ⟨_, rfl, a, _, rfl, .inl hS1, fun q hq => fin q _ ?_⟩
    rw [if_neg (by simp)]
    exact upd_same
/-- a law: a True whatever the script -/
def spLaw (K : PySem.W.Frag) : Sp := fun vs H Q _ => ∃ (a : Addr) (ns : List Int), vs = [.ref a] ∧ SqL K H a (ns.map V.int) ∧ ns.length ≤ 63 ∧ ∀ H', Q (.bl true) H'
def law0 (n : Nat) : Env := .no :: .dr :: List.replicate n .no
theorem ok_law {G : List (Str × GK)} {F : Tab} {N : List Str} {A : S} {pa pb pc pd pe : Pos} {rest : List Stmt} {f0 : Addr} {fd0 : FuncData}
    (T : TabOk P w K mg base G F k) (Fd : FunD K x qual params (.Assign [.Name "draws" pa] (.Call (.Name "_law_start" pb) [.Name "script" pc] [] pd) pe :: rest) scope [] [] f fd) (sc : FnScope N ["script"] scope)
    (h0 : N[0]? = some ("script" : Str)) (h1 : N[1]? = some ("draws" : Str)) (hv0 : Vis scope ("script" : Str)) (hv1 : Loc scope ("draws" : Str))
    (hg : scope.names.lookup ("_law_start" : Str) = some .globalImplicit) (F0 : FnOk P w K mg base (L2.CX P w) k f0 fd0 ["script"] (spS K)) (m0 : mg ("_law_start" : Str) = some (.ref f0)) (kp0 : PySem.W.keepIn K (.ref f0) = true) (b0 : Binds K fd0 ["script"] [])
    {n : Nat} (hn : n ≤ 1001) (h : cmpSs (ctx N scope G) n rest = some A)
    (hL : ∀ ns : List Int, ns.length ≤ 63 → ∃ δ', exec F A (law0 (N.length - 2)) (some (if ns = [] then [0] else ns, 0)) = .ok (.rt (.bool true)) δ') :
    FnOk P w K mg base (L2.CX P w) (k + 1) f fd ["script"] (spLaw K) := by
  refine Fd.ok sc (fun vs H Q E h => by obtain ⟨a, ns, rfl, _⟩ := h; rfl) fun cdv A1 outer s H vs Q E hr hsp => ⟨_, pss_cons (ps_set (i := 1) sc.nd h1 hv1 (pe_callS F0 hr hg m0 kp0 b0 (fun σ => passAt (good_def T sc hr).tk σ) (pa_cons (pe_var h0 hv0 (by decide +kernel) (by decide +kernel)) pa_nil rfl) (by decide +kernel) rfl rfl) rfl (.inl rfl)) ((sOk F n hn _).ss (good_def T sc hr) h), ?_⟩
  obtain ⟨a, ns, rfl, hS, hl, hQ⟩ := hsp
  obtain ⟨δ', hx⟩ := hL ns hl
  have st : (L2.start N [V.ref a]) = some (.ref a) :: List.replicate (N.length - 1) none := by simp [L2.start]
  refine ⟨.ref a, by rw [st]; rfl, a, ns, rfl, hS, fun p q H' ne hp hq => ?_⟩
  have hN : 2 ≤ N.length := by
    rcases N with _ | ⟨_, _ | ⟨_, _⟩⟩
    · cases h0
    · cases h1
    · simp
  have hr2 : List.replicate (N.length - 1) (none : Option V) = none :: List.replicate (N.length - 2) none := by
    rw [show N.length - 1 = (N.length - 2) + 1 by omega, List.replicate_succ]
  have s1 : (L2.start N [V.ref a]).set 1 (some (.ref p)) = some (.ref a) :: some (.ref p) :: List.replicate (N.length - 2) none := by rw [st, hr2]; rfl
  have no : ∀ (i : Nat) (sl : Slot), (law0 (N.length - 2))[i]? = some sl → sl = .no ∨ (sl = .dr ∧ i = 1) := fun i sl e => by
    rcases i with _ | _ | i
    · cases e; exact .inl rfl
    · cases e; exact .inr ⟨rfl, rfl⟩
    · simp only [law0, List.getElem?_cons_succ, List.getElem?_replicate] at e
      split at e
      · cases e; exact .inl rfl
      · cases e
  have r : Rel K (fm0 (fun z => z = p ∨ z = q) H' (fun _ => False) (some (p, q))) ((L2.start N [V.ref a]).set 1 (some (.ref p))) H' (law0 (N.length - 2)) (some (if ns = [] then [0] else ns, 0)) := by
    rw [s1]
    refine ⟨by simp [law0], fun i d e => ?_, fun i d e => ?_, fun i j d e a h => ?_, fun i e => ?_, ⟨hp, hq, ne, .inl rfl, .inr rfl⟩, fun z hz => ?_, fun a o e _ _ => e, fun _ _ h => h.elim, fun _ _ h => h.elim⟩
    · rcases no i _ e with h | ⟨h, _⟩ <;> cases h
    · rcases no i _ e with h | ⟨h, _⟩ <;> cases h
    · rcases no i _ h with h | ⟨h, _⟩ <;> cases h
    · rcases no i _ e with h | ⟨_, rfl⟩
      · cases h
      · exact ⟨p, q, rfl, rfl⟩
    · rcases hz with rfl | rfl
      · exact ⟨.l _, hp⟩
      · exact ⟨.l _, hq⟩
  refine ⟨_, _, _, r, ?_⟩
  rw [hx]
  intro v H2 e dd
  simp only [Dat] at dd
  subst dd
  exact hQ H2
end
end Tk
set_option linter.all false
set_option Elab.async false
set_option maxRecDepth 100000
set_option maxHeartbeats 1000000
/-! TkErr: the name of a kept exception (_law_error). -/
namespace Tk
open PySem L2 PySem.Spec PyProof.Rows
/-- isinstance(e, c), e an exception that is kept -/
def rIsK (K : PySem.W.Frag) : List V → Hp → VK → Prop := fun xs H Q => ∃ (a D : Addr) (c : V) (cv : Value) (b : Bool), xs = [.ref a, c] ∧ H a = some (ExK (.ref D) a) ∧ ExcC K D ∧ (∀ u, RelV c u → u = cv) ∧ PySem.W.kitOne K (.ref D) cv = some b ∧ Q (.bl b) H
theorem call_isK {X : Cx} : CallR X (.builtin "isinstance") (rIsK X.K) := by
  intro pins s σ H xs us Q I r h
  obtain ⟨a, D, c, cv, b, rfl, ha, C, hcv, e, q⟩ := h
  obtain ⟨u1, u2, rfl, r1, r2⟩ := vals2 r
  cases (show u1 = Value.ref a from r1)
  have ec := hcv _ r2
  subst ec
  obtain ⟨oe, fs, hget, hz, hv⟩ := (show ObjOk X.prog X.w H s.heap a (ExK (.ref D) a) from I.hok a _ ha).1
  have J : PySem.W.InstAt s.heap a oe D none := by
    obtain ⟨oc, od, oda, osl⟩ := oe
    obtain ⟨h1, h2⟩ := hz
    dsimp only at h1 h2 hv
    subst h1 h2 hv
    exact ⟨hget, rfl, rfl, trivial⟩
  exact PySem.W.kia_one (PySem.W.handS_kitx_exc C.hg C.hk C.hs C.hd C.ha C.hn C.ht C.hm) I.kIn J e (fun z => nomatch z) fun tk => ⟨.bl b, H, I.tok tk, rfl, q⟩
/-- l.count(x) -/
def rCntD (K : PySem.W.Frag) : V → List V → Hp → VK → Prop := fun x xs H Q => ∃ (a : Addr) (y : V) (d : PyData) (ds : List PyData), x = V.ref a ∧ xs = [y] ∧ Dp K H (V.ref a) (.list ds) ∧ Dp K H y d ∧ SeqAt.shaped (.list ds) = true ∧ SeqAt.shaped d = true ∧ Q (.int (ds.countP fun z => PyData.eqv z d : Nat)) H
theorem mt_cntD {X : Cx} (hu : X.A.units + 65 < cLine) : MtR X "list.count" (rCntD X.K) := by
  intro pins s σ H x xs v us Q I rx rxs h
  obtain ⟨a, y, d, ds, rfl, rfl, hl, hy, sl, sd, q⟩ := h
  cases rx
  obtain ⟨uy, rfl, ry⟩ := rxs.one
  obtain ⟨bs, r1⟩ := Dp.reads I d y uy hy ry
  have hxs : PyData.canLayAll0 ds = true := SeqAt.canLay_of_shaped sl
  cases hl with
  | lst hs ha =>
    obtain ⟨its, rv, ⟨⟨cls, dd, data, sls⟩, n, ho, hc, hdn, hdt⟩, hlen⟩ := I.list hs
    simp only at hc hdt
    subst hc hdt
    obtain ⟨as, h4⟩ := Dp.readsAll I ds _ its ha rv
    have hmap : its.map (SeqAt.readOf s.heap) = ds := SeqAt.readsAll_map ds its as hxs h4
    refine call_meets PySem.F.slot_list_count ⟨_, ho, rfl⟩ PySem.F.entry_list_count (PySem.F.args_list_count_2 _ _)
      (SeqAt.list_countAt a its.toArray n dd sls uy (fun u => PyData.eqv (SeqAt.readOf s.heap u) d)) ⟨ho, SeqAt.items_eqAt (vs := its.toArray) (show ReadsAll s.heap its.toArray.toList ds as from h4) r1 hxs (SeqAt.canLay_of_shaped sd) (room_in_shaped sd hu), ?_⟩
    have ec : its.toArray.toList.countP (fun u => PyData.eqv (SeqAt.readOf s.heap u) d) = ds.countP fun z => PyData.eqv z d := by
      rw [← hmap, List.countP_map]
      rfl
    rw [ec]
    exact ⟨.int _, H, I.tok _, ⟨_, rfl⟩, q⟩
/-! ### the classes -/
abbrev exc6 : List Str := ["BadWay", "BadDeeds", "BadViews", "BadNumber", "BadText", "NotFound"]
abbrev exc6n : List Str := ["way", "deeds", "views", "number", "text", "none"]
abbrev exc7 : List Str := ["BadWay", "BadDeeds", "BadViews", "BadNumber", "BadText", "NotFound", "TickError"]
def errName (x : Str) : Option Str := (exc6.zip exc6n).lookup x
structure ErrOk (K : PySem.W.Frag) (mg : Str → Option Value) (ad : Str → Addr) : Prop where
  g : ∀ x ∈ exc7, mg x = some (.ref (ad x))
  c : ∀ x ∈ exc6, ExcC K (ad x)
  k : ∀ x ∈ exc6, ∀ y ∈ exc6, PySem.W.kitOne K (.ref (ad x)) (.ref (ad y)) = some (decide (x = y))
  t : ∀ x ∈ exc6, PySem.W.kitOne K (.ref (ad x)) (.ref (ad "TickError")) = some true
  v : ∀ x ∈ exc6, PySem.W.kitOne K (.ref (ad x)) (.type "ValueError") = some true
  m : ∀ x ∈ exc6, PySem.W.exmOne K (.ref (ad x)) (.ref (ad "TickError")) = some true
def spErr (ad : Str → Addr) : Sp := fun vs H Q _ => ∃ (a : Addr) (x n : Str), vs = [.ref a] ∧ x ∈ exc6 ∧ H a = some (ExK (.ref (ad x)) a) ∧ errName x = some n ∧ ∀ H', Ex H H' → Q (.str n) H'
def kindB (x : Str) : List Bool := exc6.map fun y => decide (x = y)
theorem kind_facts : ∀ x ∈ exc6, ∃ (n : Str) (j : Nat), errName x = some n ∧ ((kindB x).map PyData.bool).countP (fun z => PyData.eqv z (.bool true)) = 1 ∧ (kindB x)[j]? = some true ∧ j < 6 ∧
    (((kindB x).map PyData.bool).take j).all (fun z => !PyData.eqv z (.bool true)) = true ∧ exc6n[j]? = some n := by
  intro x hx
  simp only [List.mem_cons, List.not_mem_nil, or_false] at hx
  rcases hx with rfl | rfl | rfl | rfl | rfl | rfl
  · exact ⟨"way", 0, by decide +kernel, by decide +kernel, by decide +kernel, by decide, by decide +kernel, rfl⟩
  · exact ⟨"deeds", 1, by decide +kernel, by decide +kernel, by decide +kernel, by decide, by decide +kernel, rfl⟩
  · exact ⟨"views", 2, by decide +kernel, by decide +kernel, by decide +kernel, by decide, by decide +kernel, rfl⟩
  · exact ⟨"number", 3, by decide +kernel, by decide +kernel, by decide +kernel, by decide, by decide +kernel, rfl⟩
  · exact ⟨"text", 4, by decide +kernel, by decide +kernel, by decide +kernel, by decide, by decide +kernel, rfl⟩
  · exact ⟨"none", 5, by decide +kernel, by decide +kernel, by decide +kernel, by decide, by decide +kernel, rfl⟩

section
variable {P : Program} {w : World} {K : PySem.W.Frag} {mg : Str → Option Value} {base : Heap} {qual x : Str} {params : Arguments} {scope : Scope} {f : Addr} {fd : FuncData} {ad : Str → Addr}
abbrev errN : List Str := ["caught", "kinds"]
theorem ok_err {p1 p2 p3 p4 p5 p6 p7 p8 p9 p10 p11 p12 p13 p14 p15 p16 p17 p18 p19 p20 p21 p22 p23 p24 p25 p26 p27 p28 p29 p30 p31 p32 p33 p34 p35 p36 p37 p38 p39 p40 p41 p42 p43 p44 p45 p46 p47 p48 p49 p50 p51 p52 p53 p54 p55 p56 p57 p58 p59 p60 p61 pa pb pc pd : Pos} {k1 k2 k3 k4 k5 k6 k7 k8 k9 k10 : Nat}
    (Fd : FunD K x qual params [.Assign [(.Name "kinds" p1)] (.List [(.Call (.Name "isinstance" p2) [(.Name "caught" p3), (.Name "BadWay" p4)] [] p5), (.Call (.Name "isinstance" p6) [(.Name "caught" p7), (.Name "BadDeeds" p8)] [] p9), (.Call (.Name "isinstance" p10) [(.Name "caught" p11), (.Name "BadViews" p12)] [] p13)] p14) p15,
    .Assign [(.Name "kinds" p16)] (.BinOp (.Name "kinds" p17) .Add (.List [(.Call (.Name "isinstance" p18) [(.Name "caught" p19), (.Name "BadNumber" p20)] [] p21), (.Call (.Name "isinstance" p22) [(.Name "caught" p23), (.Name "BadText" p24)] [] p25), (.Call (.Name "isinstance" p26) [(.Name "caught" p27), (.Name "NotFound" p28)] [] p29)] p30) p31) p32,
    .If (.BoolOp .Or [(.Compare (.Call (.Attribute (.Name "kinds" p33) "count" pa) [(.Constant (.bool true) k1 p34)] [] pb) [.NotEq] [(.Constant (.int 1) k2 p35)] p36), (.UnaryOp .Not (.Call (.Name "isinstance" p37) [(.Name "caught" p38), (.Name "TickError" p39)] [] p40) p41), (.UnaryOp .Not (.Call (.Name "isinstance" p42) [(.Name "caught" p43), (.Name "ValueError" p44)] [] p45) p46)] p47) [.Return (some (.Constant (.str "odd") k3 p48)) p49] [] p50,
    .Return (some (.Subscript (.List [(.Constant (.str "way") k4 p51), (.Constant (.str "deeds") k5 p52), (.Constant (.str "views") k6 p53), (.Constant (.str "number") k7 p54), (.Constant (.str "text") k8 p55), (.Constant (.str "none") k9 p56)] p57) (.Call (.Attribute (.Name "kinds" p58) "index" pc) [(.Constant (.bool true) k10 p59)] [] pd) p60)) p61] scope [] [] f fd)
    (sc : FnScope errN ["caught"] scope) (hv : ∀ x ∈ errN, scope.names.lookup x = some .local) (hg : ∀ x ∈ ("isinstance" : Str) :: "ValueError" :: exc7, scope.names.lookup x = some .globalImplicit) (mis : mg ("isinstance" : Str) = none) (mve : mg ("ValueError" : Str) = none) (hp1 : (pa.endLine == pb.line) = true) (hp2 : (pc.endLine == pd.line) = true) (R : ErrOk K mg ad) :
    FnOk P w K mg base (L2.CX P w) 1 f fd ["caught"] (spErr ad) := by
  refine Fd.ok sc (fun vs H Q E h => by obtain ⟨a, x, n, rfl, _⟩ := h; rfl) fun cdv A outer s H vs Q E hr hsp => ?_
  have hu : (cxOf (L2.CX P w) P w K mg base errN qual scope f cdv A outer s H E).A.units + 65 < cLine := by
    have := hr.un
    show (A.deeper (PyProof.Rows.envOfC qual scope s.heap.objs.size f cdv)).units + 65 < cLine
    omega
  have v := fun (i : Nat) {x : Str} {pos : Pos} (h : errN[i]? = some x) (hd : (x == ("__debug__" : Str)) = false) (hcd : (x == ("__classdict__" : Str)) = false) => pvN (X := cxOf (L2.CX P w) P w K mg base errN qual scope f cdv A outer s H E) (N := errN) i (x := x) (pos := pos) rfl h hv hd hcd
  have lo : ∀ {x : Str}, x ∈ errN → Loc scope x := fun h => .inl (hv _ h)
  have is := fun (c : Str) (hc : c ∈ exc7 ∧ (c == ("__debug__" : Str)) = false) {q1 q2 q3 q4 : Pos} => pe_callB (X := cxOf (L2.CX P w) P w K mg base errN qual scope f cdv A outer s H E) (x := "isinstance") (p := q1) (pos := q4) call_isK (hg _ (by simp)) mis PyProof.Rows.boot_isinstance (pa_cons (v 0 (pos := q2) rfl (by decide +kernel) (by decide +kernel)) (pa_cons (pe_glob (v := .ref (ad c)) (pos := q3) (hg c (by simp only [List.mem_cons]; exact .inr (.inr (by simpa using hc.1)))) (R.g c hc.1) rfl hc.2) pa_nil rfl) rfl) (by decide +kernel) (by decide +kernel) rfl rfl
  refine ⟨_, pss_cons (ps_set (i := 1) sc.nd rfl (lo (by decide +kernel)) (pe_lst (pa_cons (is "BadWay" (by decide +kernel)) (pa_cons (is "BadDeeds" (by decide +kernel)) (pa_cons (is "BadViews" (by decide +kernel)) pa_nil rfl) rfl) rfl)) rfl (.inl rfl))
    (pss_cons (ps_set (i := 1) sc.nd rfl (lo (by decide +kernel)) (pe_op op_cat (v 1 rfl (by decide +kernel) (by decide +kernel)) (pe_lst (pa_cons (is "BadNumber" (by decide +kernel)) (pa_cons (is "BadText" (by decide +kernel)) (pa_cons (is "NotFound" (by decide +kernel)) pa_nil rfl) rfl) rfl))) rfl (.inl rfl))
    (pss_cons (ps_if (PW.pt (pw_or (pt_cmpR (op_neD (by omega)) (pe_bm PySem.F.plainAttrs_list PySem.F.slot_list_count PySem.F.type_list_count (mt_cntD hu) (v 1 rfl (by decide +kernel) (by decide +kernel)) (pa_cons pe_bl pa_nil rfl) rfl rfl hp1 rfl rfl) pe_int (nomark _))
        (pw_or (pt_not (pt_val (is "TickError" (by decide +kernel)))) (pw_or1 (pt_not (pt_val (pe_callB call_isK (hg _ (by simp)) mis PyProof.Rows.boot_isinstance (pa_cons (v 0 rfl (by decide +kernel) (by decide +kernel)) (pa_cons (pe_bltn (v := .ty "ValueError") (hg _ (by simp)) mve boot_ValueError rfl (by decide +kernel) (by decide +kernel)) pa_nil rfl) rfl) (by decide +kernel) (by decide +kernel) rfl rfl))))))) (pss_one (ps_ret pe_str)) pss_nil)
    (pss_one (ps_ret (pe_ix ix_list (pe_lst (pa_cons pe_str (pa_cons pe_str (pa_cons pe_str (pa_cons pe_str (pa_cons pe_str (pa_cons pe_str pa_nil rfl) rfl) rfl) rfl) rfl) rfl)) (pe_bm PySem.F.plainAttrs_list PySem.F.slot_list_index PySem.F.type_list_index (mt_indexD hu) (v 1 rfl (by decide +kernel) (by decide +kernel)) (pa_cons pe_bl pa_nil rfl) rfl rfl hp2 rfl rfl) (fun _ _ => rfl)))))), ?_⟩
  obtain ⟨a, x, n, rfl, hx, ha, hn, hQ⟩ := hsp
  obtain ⟨n', j, hn', hc1, hj1, hj6, hj2, hj3⟩ := kind_facts x hx
  rw [hn] at hn'
  cases hn'
  have ne : ∀ {G : Hp} {p : Addr} {o : HO}, G a = some (ExK (.ref (ad x)) a) → G p = none → upd G p o a = some (ExK (.ref (ad x)) a) := fun h1 h2 => by
    rw [upd_ne (fun z => by rw [← z, h1] at h2; cases h2)]; exact h1
  have kk := R.k x hx
  have C := R.c x hx
  refine ⟨_, rfl, a, ad x, _, _, _, rfl, ha, C, fun u r => r, kk "BadWay" (by decide +kernel), _, rfl, a, ad x, _, _, _, rfl, ha, C, fun u r => r, kk "BadDeeds" (by decide +kernel), _, rfl, a, ad x, _, _, _, rfl, ha, C, fun u r => r, kk "BadViews" (by decide +kernel), (show (3 : Nat) ≤ sizeLine by decide), fun p hp => ?_⟩
  have ha1 := ne (o := .lst [.bl (decide (x = "BadWay")), .bl (decide (x = "BadDeeds")), .bl (decide (x = "BadViews"))]) ha hp
  refine ⟨_, rfl, _, rfl, a, ad x, _, _, _, rfl, ha1, C, fun u r => r, kk "BadNumber" (by decide +kernel), _, rfl, a, ad x, _, _, _, rfl, ha1, C, fun u r => r, kk "BadText" (by decide +kernel), _, rfl, a, ad x, _, _, _, rfl, ha1, C, fun u r => r, kk "NotFound" (by decide +kernel), (show (3 : Nat) ≤ sizeLine by decide), fun p2 hp2 => ?_⟩
  have ha2 := ne (o := .lst [.bl (decide (x = "BadNumber")), .bl (decide (x = "BadText")), .bl (decide (x = "NotFound"))]) ha1 hp2
  have np : p ≠ p2 := fun z => by rw [← z, upd_same] at hp2; cases hp2
  refine ⟨p, p2, [.bl (decide (x = "BadWay")), .bl (decide (x = "BadDeeds")), .bl (decide (x = "BadViews"))], [.bl (decide (x = "BadNumber")), .bl (decide (x = "BadText")), .bl (decide (x = "NotFound"))], rfl, rfl, by rw [upd_ne np]; exact upd_same, upd_same, (show (6 : Nat) ≤ sizeLine by decide), fun p3 hp3 => ?_⟩
  have ha3 := ne (o := .lst ([.bl (decide (x = "BadWay")), .bl (decide (x = "BadDeeds")), .bl (decide (x = "BadViews"))] ++ [.bl (decide (x = "BadNumber")), .bl (decide (x = "BadText")), .bl (decide (x = "NotFound"))])) ha2 hp3
  have ex3 : Ex H (upd (upd (upd H p (.lst [.bl (decide (x = "BadWay")), .bl (decide (x = "BadDeeds")), .bl (decide (x = "BadViews"))])) p2 (.lst [.bl (decide (x = "BadNumber")), .bl (decide (x = "BadText")), .bl (decide (x = "NotFound"))])) p3 (.lst ([.bl (decide (x = "BadWay")), .bl (decide (x = "BadDeeds")), .bl (decide (x = "BadViews"))] ++ [.bl (decide (x = "BadNumber")), .bl (decide (x = "BadText")), .bl (decide (x = "NotFound"))]))) := fun b o e => by
    have n1 : b ≠ p := fun z => by rw [z, hp] at e; cases e
    have e1 : upd H p (.lst [.bl (decide (x = "BadWay")), .bl (decide (x = "BadDeeds")), .bl (decide (x = "BadViews"))]) b = some o := by rw [upd_ne n1]; exact e
    have n2 : b ≠ p2 := fun z => by rw [z, hp2] at e1; cases e1
    have e2 : upd (upd H p (.lst [.bl (decide (x = "BadWay")), .bl (decide (x = "BadDeeds")), .bl (decide (x = "BadViews"))])) p2 (.lst [.bl (decide (x = "BadNumber")), .bl (decide (x = "BadText")), .bl (decide (x = "NotFound"))]) b = some o := by rw [upd_ne n2]; exact e1
    have n3 : b ≠ p3 := fun z => by rw [z, hp3] at e2; cases e2
    rw [upd_ne n3]; exact e2
  have e3 : upd (upd (upd H p (.lst [.bl (decide (x = "BadWay")), .bl (decide (x = "BadDeeds")), .bl (decide (x = "BadViews"))])) p2 (.lst [.bl (decide (x = "BadNumber")), .bl (decide (x = "BadText")), .bl (decide (x = "NotFound"))])) p3 (.lst ([.bl (decide (x = "BadWay")), .bl (decide (x = "BadDeeds")), .bl (decide (x = "BadViews"))] ++ [.bl (decide (x = "BadNumber")), .bl (decide (x = "BadText")), .bl (decide (x = "NotFound"))])) p3 = some (.lst ((kindB x).map V.bl)) := upd_same
  have dpb : ∀ {G : Hp} (bs : List Bool), DpAll K G (bs.map V.bl) (bs.map PyData.bool) := fun {G} bs => by
    induction bs with
    | nil => exact .nil
    | cons b bs ih => exact .cons (.bl b) ih
  have shb : SeqAt.shaped (.list ((kindB x).map PyData.bool)) = true := rfl
  refine ⟨_, rfl, .inl ⟨rfl, _, SqL.of e3⟩, p3, _, .bool true, (kindB x).map PyData.bool, rfl, rfl, .lst (SqL.of e3) (dpb (kindB x)), .bl true, shb, rfl, .int 1, .int 1, ?_, .int 1, rfl, rfl, false, by rfl, ?_⟩
  · rw [hc1]; exact .int 1
  refine (if_neg (by decide)).mpr ?_
  refine ⟨_, rfl, a, ad x, _, _, _, rfl, ha3, C, fun u r => r, R.t x hx, _, rfl, ?_⟩
  refine (if_neg (by decide)).mpr ?_
  refine ⟨_, rfl, a, ad x, _, _, _, rfl, ha3, C, fun u r => r, R.v x hx, _, rfl, ?_⟩
  refine (if_neg (by decide)).mpr ?_
  refine ⟨(show (6 : Nat) ≤ sizeLine by decide), fun p4 hp4 => ?_⟩
  have np4 : p3 ≠ p4 := fun z => by rw [← z, upd_same] at hp4; cases hp4
  have e4 : upd (upd (upd (upd H p (.lst [.bl (decide (x = "BadWay")), .bl (decide (x = "BadDeeds")), .bl (decide (x = "BadViews"))])) p2 (.lst [.bl (decide (x = "BadNumber")), .bl (decide (x = "BadText")), .bl (decide (x = "NotFound"))])) p3 (.lst ([.bl (decide (x = "BadWay")), .bl (decide (x = "BadDeeds")), .bl (decide (x = "BadViews"))] ++ [.bl (decide (x = "BadNumber")), .bl (decide (x = "BadText")), .bl (decide (x = "NotFound"))]))) p4 (.lst (exc6n.map V.str)) p3 = some (.lst ((kindB x).map V.bl)) := by rw [upd_ne np4]; exact e3
  have hjv : ((kindB x).map PyData.bool)[j]? = some (.bool true) := by rw [List.getElem?_map, hj1]; rfl
  refine ⟨_, rfl, .inl ⟨rfl, _, SqL.of e4⟩, p3, _, .bool true, (kindB x).map PyData.bool, j, .bool true, rfl, rfl, .lst (SqL.of e4) (dpb (kindB x)), .bl true, shb, rfl, hjv, rfl, fun m z hm hz => ?_, p4, exc6n.map V.str, (j : Int), .str n, rfl, rfl, SqL.of upd_same, ?_, hQ _ ?_⟩
  · have := List.all_eq_true.mp hj2 z (by
      refine List.mem_of_getElem? (i := m) ?_
      rw [List.getElem?_take, if_pos hm]
      exact hz)
    simpa using this
  · unfold atI ixN
    rw [if_pos (by omega), if_pos (by simp; omega)]
    show (exc6n.map V.str)[((j : Int)).toNat]? = some (V.str n)
    rw [Int.toNat_natCast, List.getElem?_map, hj3]
    rfl
  · exact fun b o e => by
      have e5 := ex3 b o e
      rw [upd_ne (fun z => by rw [z, hp4] at e5; cases e5)]
      exact e5
end
end Tk
set_option linter.all false
set_option Elab.async false
set_option maxRecDepth 100000
set_option maxHeartbeats 1000000
/-! TkGrd: a def that tells the name of the exception of one expression. -/
namespace Tk
open PySem L2 PySem.Spec PyProof.Rows
def grd (F : Tab) (n i j : Nat) (e : E) (ds : List D) : O D := match ev F e (((enter n ds).set i (.va .none)).set j (.va .none)) none with
  | .ok d _ => .ok d
  | .er c _ => match errName c with
    | some x => .ok (.str x)
    | none => .bad
  | .bad => .bad
def runT (F : Tab) (m n i j : Nat) (e : E) (ds : List D) : O D := if ds.length = m then grd F n i j e ds else .bad
theorem err_mem {x n : Str} (h : errName x = some n) : x ∈ exc6 := by
  by_cases hx : x ∈ exc6
  · exact hx
  · exfalso
    simp only [List.mem_cons, List.not_mem_nil, or_false, not_or] at hx
    obtain ⟨h1, h2, h3, h4, h5, h6⟩ := hx
    have e : ∀ y : Str, x ≠ y → (x == y) = false := fun y z => by simpa using z
    simp [errName, List.lookup_cons, e _ h1, e _ h2, e _ h3, e _ h4, e _ h5, e _ h6] at h
theorem frz_no {ρ : Env} (h : ∀ (i : Nat) (d : D), ρ[i]? ≠ some (Slot.ow d)) : ∀ l : List Nat, frz ρ l = ρ
  | [] => rfl
  | i :: l => by
    unfold frz
    cases e : ρ[i]? with
    | none => exact frz_no h l
    | some s =>
      cases s with
      | ow d => exact absurd e (h i d)
      | _ => exact frz_no h l
theorem set_no_ow {ρ : Env} {i : Nat} {d : D} (h : ∀ (i : Nat) (d : D), ρ[i]? ≠ some (Slot.ow d)) : ∀ (k : Nat) (e : D), (ρ.set i (.va d))[k]? ≠ some (Slot.ow e) := fun k e z => by
  rw [List.getElem?_set] at z
  split at z
  · split at z <;> cases z
  · exact h k e z
section
variable {P : Program} {w : World} {K : PySem.W.Frag} {mg : Str → Option Value} {base : Heap} {G : List (Str × GK)} {F : Tab} {k : Nat} {N ps : List Str} {qual x : Str} {params : Arguments} {scope : Scope} {f : Addr} {fd : FuncData} {ad : Str → Addr} {e : Expr} {E' : E} {f0 : Addr} {fd0 : FuncData}
theorem ok_try {p1 p2 p3 p4 p5 p6 p7 p8 p9 p10 p11 p12 p13 p14 p15 p16 p17 p18 p19 p20 p21 p22 p23 : Pos} {k1 k2 k3 : Nat} {i j l : Nat} (T : TabOk P w K mg base G F k)
    (Fd : FunD K x qual params [.Assign [.Name "found" p1] (.Constant .none k1 p2) p3, .Assign [.Name "caught" p4] (.Constant .none k2 p5) p6,
      .Try [.Assign [.Name "found" p7] e p8] [.ExceptHandler (some (.Name "TickError" p9)) (some "e") [.Assign [.Name "caught" p10] (.Name "e" p11) p12] p13] [] [] p14,
      .Return (some (.IfExp (.Compare (.Name "caught" p15) [.Is] [.Constant .none k3 p16] p17) (.Name "found" p18) (.Call (.Name "_law_error" p19) [.Name "caught" p20] [] p21) p22)) p23] scope [] [] f fd)
    (sc : FnScope N ps scope) (hN : ps.length ≤ N.length) (hi : N[i]? = some ("found" : Str)) (hj : N[j]? = some ("caught" : Str)) (hl : N[l]? = some ("e" : Str)) (hij : i ≠ j) (hil : i ≠ l) (hjl : j ≠ l) (hpi : ps.length ≤ i) (hpj : ps.length ≤ j)
    (vi : scope.names.lookup ("found" : Str) = some .local) (vj : scope.names.lookup ("caught" : Str) = some .local) (vl : scope.names.lookup ("e" : Str) = some .local)
    (gt : scope.names.lookup ("TickError" : Str) = some .globalImplicit) (ge : scope.names.lookup ("_law_error" : Str) = some .globalImplicit)
    {n : Nat} (hn : n ≤ 1000) (hc : cmpE (ctx N scope G) n e = some E') (hfr : fresh E' = false) (ti : tgOf (ctx N scope G) "found" = some i) (Rk : ErrOk K mg ad)
    (F0 : FnOk P w K mg base (L2.CX P w) k f0 fd0 ["caught"] (spErr ad)) (m0 : mg ("_law_error" : Str) = some (.ref f0)) (kp0 : PySem.W.keepIn K (.ref f0) = true) (b0 : Binds K fd0 ["caught"] []) :
    FnOk P w K mg base (L2.CX P w) (k + 1) f fd ps (spP K mg ps.length (runT F ps.length N.length i j E')) := by
  refine Fd.ok sc (fun vs H Q E h => h.1) fun cdv A outer s H vs Q E hr hsp => ?_
  have GS := good_def (E := E) (H := H) (outer := outer) (cdv := cdv) T sc hr
  let ws : WX → WS := fun W c σ H => ∀ C, mg c = some (.ref C) → W (.ref C) none σ H
  refine ⟨_, pss_cons (ps_set (i := i) sc.nd hi (.inl vi) pe_non rfl (.inl rfl)) (pss_cons (ps_set (i := j) sc.nd hj (.inl vj) pe_non rfl (.inl rfl))
    (pss_cons (ps_keep (i := l) (j := j) (c := .ref (ad "TickError")) (tb := fun W => tS F K (ws W) (.set i E')) rfl rfl rfl sc.nd hl vl (.inl vl) (by decide +kernel) (by decide +kernel) hj vj ⟨gt, by decide +kernel, .inl (Rk.g _ (by decide +kernel))⟩ (fun W pn xe tk po => ?body))
      (pss_one (ps_ret (pe_ifExp (pt_cmp (pc_isN (pe_var hj (.inl vj) (by decide +kernel) (by decide +kernel)))) (pe_var hi (.inl vi) (by decide +kernel) (by decide +kernel)) (pe_callS F0 hr ge m0 kp0 b0 (fun σ => passAt GS.tk σ) (pa_cons (pe_var hj (.inl vj) (by decide +kernel) (by decide +kernel)) pa_nil rfl) (by decide +kernel) rfl rfl)))))), ?_⟩
  case body =>
    have G2 : GoodS (ctx N scope G) F (Cx.tr (cxOf (L2.CX P w) P w K mg base N qual scope f cdv A outer s H E) pn xe) (ws W) :=
      ⟨⟨GS.N, GS.sc, GS.fn, GS.nd, GS.calm, GS.kind, GS.un, GS.bl, GS.co, GS.pu, GS.pf, GS.dw, GS.mu, tk.imp fun cls d σ H ⟨e, C, h1, h2, h3, h4⟩ => by subst h2; subst h3; exact h4 C h1⟩, po, GS.ex⟩
    exact pss_one (s_set hn G2 ti hc)
  obtain ⟨hlen, ds, A', al, dat, m⟩ := hsp
  have hds : ds.length = ps.length := by rw [← dat.length]; exact hlen
  unfold runT at m
  rw [if_pos hds] at m
  unfold grd at m
  have r0 : Rel K (fm0 A' H (fun _ => False) none) (L2.start N vs) H (enter N.length ds) none := rel0 al dat
  have r1 := (r0.setVa (i := i) (v := .non) (d := .none) (by simp [Dat])).setVa (i := j) (v := .non) (d := .none) (by simp [Dat])
  obtain ⟨ρ, hρ⟩ : ∃ ρ, ρ = ((enter N.length ds).set i (.va .none)).set j (.va .none) := ⟨_, rfl⟩
  rw [← hρ] at m r1
  have now : ∀ (i : Nat) (d : D), ρ[i]? ≠ some (Slot.ow d) := by
    rw [hρ]
    exact set_no_ow (set_no_ow fun i d => enter_no_ow)
  have li : i < N.length := (List.getElem?_eq_some_iff.mp hi).1
  have lj : j < N.length := (List.getElem?_eq_some_iff.mp hj).1
  have hlρ : ρ.length = N.length := by rw [hρ, List.length_set, List.length_set, enter_len, hds]; omega
  have hρj : ρ[j]? = some (.va .none) := by
    rw [hρ, List.getElem?_set_self (by rw [List.length_set, enter_len, hds]; omega)]
  have ex : ∀ {H' δ'}, EndOk (fm0 A' H (fun _ => False) none) H' δ' → Ex H H' := fun h a o e => h.2 a o e (fun z => z) (fun ⟨_, _, z, _⟩ => nomatch z)
  refine ⟨fm0 A' H (fun _ => False) none, ρ, none, r1, ?_⟩
  simp only [exec]
  cases qe : ev F E' ρ none with
  | ok d δ1 =>
    rw [qe] at m
    rw [Tk.R.bind_ok]
    simp only [store, keepE, hfr, Bool.false_and]
    rw [if_pos (by rw [hlρ]; exact li)]
    have ek : (if scalar d = true then ρ else frz ρ (esc E')) = ρ := by
      split
      · rfl
      · exact frz_no now _
    rw [ek]
    intro σ' H' r' _
    obtain ⟨v, e1, e2⟩ := r'.va i d (by rw [if_neg (by simp), List.getElem?_set_self (by rw [hlρ]; exact li)])
    obtain ⟨v2, e3, e4⟩ := r'.va j .none (by rw [List.getElem?_set_ne hij]; exact hρj)
    simp only [Dat] at e4
    subst e4
    refine ⟨_, e3, ?_⟩
    refine ⟨_, rfl, ?_⟩
    refine (if_pos (by decide)).mpr ?_
    refine ⟨v, e1, m v H' (ex r'.end_) ?_⟩
    refine Dat.mono (fun a o q _ na => ⟨q, fun z => na ?_⟩) d e2
    exact .inl z
  | er c δ1 =>
    rw [qe] at m
    intro σ' H' en C hC
    cases hy : errName c with
    | none => simp only [hy] at m
    | some y =>
      simp only [hy] at m
      have hx := err_mem hy
      have eC : C = ad c := by
        have := Rk.g c (by simp only [List.mem_cons, List.not_mem_nil, or_false] at hx ⊢; rcases hx with h | h | h | h | h | h <;> simp [h])
        rw [hC] at this
        injection this with this; injection this
      subst eC
      refine ⟨Rk.m c hx, rfl, fun a na hlen' => ?_⟩
      have g1 : (((σ'.set l (some (.ref a))).set j (some (.ref a))).set l none)[j]? = some (some (.ref a)) := by
        rw [List.getElem?_set_ne (Ne.symm hjl), List.getElem?_set_self (by simp; rw [hlen']; exact lj)]
      refine ⟨_, g1, ?_⟩
      refine ⟨_, rfl, ?_⟩
      refine (if_neg (by simp)).mpr ?_
      refine ⟨_, g1, a, c, y, rfl, hx, upd_same, hy, fun H2 ex2 => m (.str y) H2 (fun b o q => ex2 b o ?_) (by simp [Dat])⟩
      have := ex en b o q
      rw [upd_ne (fun z => by rw [z, na] at this; cases this)]
      exact this
  | bad => rw [qe] at m; exact m.elim
end
end Tk
set_option linter.all false
set_option Elab.async false
set_option maxRecDepth 100000
namespace Tk
open PySem
def A_count_states : S := (.sq (.ex (.ca "check_way" (.cons (.v 0) .nil)))
  (.sq (.ex (.ca "check_tree" (.cons (.v 1) .nil)))
  (.sq (.ret (.bu .len (.cons (.ca "rows_of" (.cons (.v 0) (.cons (.v 1) .nil))) .nil)))
  .sk)))
def T_count_states : Tab := fun x => if x = "check_way" then some (.pu M_check_way) else if x = "check_tree" then some (.pu M_check_tree) else if x = "rows_of" then some (.pu M_rows_of) else none
def M_count_states : List D → O D := runP T_count_states 2 2 A_count_states
def A_is_state : S := (.sq (.ret (.an (.isi .tuple (.v 0)) (.an (.cm .eq (.bu .len (.cons (.v 0) .nil)) (.bu .len (.cons (.v 1) .nil))) (.bu .all (.cons (.co (.ca "is_int" (.cons (.v 2) (.cons (.k (.int 0)) (.cons (.k (.int 2)) .nil)))) (.n 2) (.sq (.v 0)) (.k (.bool true))) .nil)))))
  .sk)
def T_is_state : Tab := fun x => if x = "is_int" then some (.pu M_is_int) else none
def M_is_state : List D → O D := runP T_is_state 2 3 A_is_state
def A_rows_to : S := (.sq (.ex (.ca "check_way" (.cons (.v 0) .nil)))
  (.sq (.ex (.ca "check_tree" (.cons (.v 1) .nil)))
  (.sq (.ifs (.no (.ca "is_state" (.cons (.v 2) (.cons (.v 1) .nil)))) (.sq (.rai "BadViews")
  .sk) .sk)
  (.sq (.set 3 (.ca "rows_of" (.cons (.v 0) (.cons (.v 1) .nil))))
  (.sq (.ifs (.cm .nin (.v 2) (.v 3)) (.sq (.rai "NotFound")
  .sk) .sk)
  (.sq (.ret (.v 3))
  .sk))))))
def T_rows_to : Tab := fun x => if x = "check_way" then some (.pu M_check_way) else if x = "check_tree" then some (.pu M_check_tree) else if x = "rows_of" then some (.pu M_rows_of) else if x = "is_state" then some (.pu M_is_state) else none
def M_rows_to : List D → O D := runP T_rows_to 3 4 A_rows_to
def A_row_to : S := (.sq (.ret (.ix (.ca "rows_to" (.cons (.v 0) (.cons (.v 1) (.cons (.v 2) .nil)))) (.v 2)))
  .sk)
def T_row_to : Tab := fun x => if x = "rows_to" then some (.pu M_rows_to) else none
def M_row_to : List D → O D := runP T_row_to 3 3 A_row_to
def A_idle_deeds : S := (.sq (.ex (.ca "rows_to" (.cons (.v 0) (.cons (.v 1) (.cons (.v 2) .nil)))))
  (.sq (.ret (.co (.v 3) (.n 3) (.sq (.ca "deeds_of" (.cons (.v 1) .nil))) (.cm .eq (.ca "step" (.cons (.v 0) (.cons (.v 1) (.cons (.v 2) (.cons (.v 3) .nil))))) (.v 2))))
  .sk))
def T_idle_deeds : Tab := fun x => if x = "rows_to" then some (.pu M_rows_to) else if x = "deeds_of" then some (.pu M_deeds_of) else if x = "step" then some (.pu M_step) else none
def M_idle_deeds : List D → O D := runP T_idle_deeds 3 4 A_idle_deeds
def A_law_sets : S := (.sq (.set 1 (.ls (.cons (.tu .nil) .nil)))
  (.sq (.fors (.n 2) (.sq (.ca "_law_leaves" (.cons (.v 0) .nil))) (.sq (.set 1 (.bin .add (.v 1) (.co (.bin .add (.v 3) (.tu (.cons (.v 2) .nil))) (.n 3) (.sq (.v 1)) (.k (.bool true)))))
  .sk))
  (.sq (.ret (.bu .sorted (.cons (.v 1) .nil)))
  .sk)))
def T_law_sets : Tab := fun x => if x = "_law_leaves" then some (.pu M_law_leaves) else none
def M_law_sets : List D → O D := runP T_law_sets 1 4 A_law_sets
def A_law_call : E := (.ite (.cm .eq (.v 0) (.k (.int 0))) (.ca "row_to" (.cons (.v 1) (.cons (.v 2) (.cons (.v 3) .nil)))) (.ca "idle_deeds" (.cons (.v 1) (.cons (.v 2) (.cons (.v 3) .nil)))))
def T_law_call : Tab := fun x => if x = "row_to" then some (.pu M_row_to) else if x = "idle_deeds" then some (.pu M_idle_deeds) else none
def M_law_call : List D → O D := runT T_law_call 4 7 4 5 A_law_call
def A_law : S := (.sq (.sets [2, 3] (.cons (.dc "_law_way" 1 .nil) (.cons (.dc "_law_tree" 1 (.cons (.k (.int 5)) .nil)) .nil)))
  (.sq (.set 4 (.ca "_law_deeds" (.cons (.v 3) .nil)))
  (.sq (.set 5 (.ca "_law_reach" (.cons (.v 2) (.cons (.v 3) (.cons (.v 4) (.cons (.ca "_law_first" (.cons (.v 3) .nil)) .nil))))))
  (.sq (.ifs (.cm .ne (.ca "count_states" (.cons (.v 2) (.cons (.v 3) .nil))) (.bu .len (.cons (.v 5) .nil))) (.sq (.ret (.k (.bool false)))
  .sk) .sk)
  (.sq (.fors (.n 6) (.r1 (.k (.int 5))) (.sq (.set 7 (.dc "_law_pick" 1 (.cons (.bu .sorted (.cons (.v 5) .nil)) .nil)))
  (.sq (.ifs (.or (.cm .ne (.ca "_law_call" (.cons (.k (.int 0)) (.cons (.v 2) (.cons (.v 3) (.cons (.v 7) .nil))))) (.ix (.v 5) (.v 7))) (.cm .ne (.ca "state_after" (.cons (.v 2) (.cons (.v 3) (.cons (.ix (.v 5) (.v 7)) .nil)))) (.v 7))) (.sq (.ret (.k (.bool false)))
  .sk) .sk)
  (.sq (.ifs (.cm .ne (.ca "_law_call" (.cons (.k (.int 1)) (.cons (.v 2) (.cons (.v 3) (.cons (.v 7) .nil))))) (.co (.v 8) (.n 8) (.sq (.v 4)) (.cm .eq (.ca "_law_step" (.cons (.v 2) (.cons (.v 3) (.cons (.v 7) (.cons (.v 8) .nil))))) (.v 7)))) (.sq (.ret (.k (.bool false)))
  .sk) .sk)
  .sk))))
  (.sq (.set 9 (.bu .tuple (.cons (.co (.dc "_law_draw" 1 (.cons (.k (.int 3)) .nil)) (.n 10) (.sq (.v 3)) (.k (.bool true))) .nil)))
  (.sq (.set 11 (.bin .mul (.ls (.cons (.k (.str "none")) .nil)) (.k (.int 2))))
  (.sq (.ifs (.cm .isin (.v 9) (.v 5)) (.sq (.set 11 (.ls (.cons (.ix (.v 5) (.v 9)) (.cons (.co (.v 8) (.n 8) (.sq (.v 4)) (.cm .eq (.ca "_law_step" (.cons (.v 2) (.cons (.v 3) (.cons (.v 9) (.cons (.v 8) .nil))))) (.v 9))) .nil))))
  .sk) .sk)
  (.sq (.ifs (.cm .ne (.co (.ca "_law_call" (.cons (.v 12) (.cons (.v 2) (.cons (.v 3) (.cons (.v 9) .nil))))) (.n 12) (.r1 (.k (.int 2))) (.k (.bool true))) (.v 11)) (.sq (.ret (.k (.bool false)))
  .sk) .sk)
  (.sq (.set 13 (.tu (.cons (.k (.str "all")) (.cons (.ix (.v 2) (.k (.int 1))) (.cons (.k (.str "half")) (.cons (.k (.int 0)) (.cons (.k (.int 0)) (.cons (.k (.int 0)) .nil))))))))
  (.sq (.ifs (.or (.cm .ne (.ca "count_states" (.cons (.v 13) (.cons (.v 3) .nil))) (.bu .len (.cons (.ca "_law_sets" (.cons (.v 3) .nil)) .nil))) (.cm .ne (.ca "_law_call" (.cons (.k (.int 0)) (.cons (.v 2) (.cons (.v 3) (.cons (.bu .tuple (.cons (.bin .mul (.ls (.cons (.k (.int 2)) .nil)) (.bu .len (.cons (.v 3) .nil))) .nil)) .nil))))) (.k (.str "none")))) (.sq (.ret (.k (.bool false)))
  .sk) .sk)
  (.sq (.ret (.an (.cm .eq (.ca "_law_call" (.cons (.k (.int 0)) (.cons (.v 2) (.cons (.v 3) (.cons (.ca "_law_first" (.cons (.v 3) .nil)) .nil))))) (.ls .nil)) (.cm .isin (.tu (.cons (.k (.str "none")) .nil)) (.ca "_law_call" (.cons (.k (.int 1)) (.cons (.v 2) (.cons (.v 3) (.cons (.ca "_law_first" (.cons (.v 3) .nil)) .nil))))))))
  .sk))))))))))))
def T_law : Tab := fun x => if x = "_law_deeds" then some (.pu M_law_deeds) else if x = "_law_reach" then some (.pu M_law_reach) else if x = "_law_way" then some (.dw M_law_way) else if x = "_law_tree" then some (.dw M_law_tree) else if x = "_law_first" then some (.pu M_law_first) else if x = "count_states" then some (.pu M_count_states) else if x = "_law_pick" then some (.dw M_law_pick) else if x = "_law_call" then some (.pu M_law_call) else if x = "_law_draw" then some (.dw M_law_draw) else if x = "state_after" then some (.pu M_state_after) else if x = "_law_sets" then some (.pu M_law_sets) else if x = "_law_step" then some (.pu M_law_step) else none
end Tk
set_option linter.all false
set_option Elab.async false
set_option maxRecDepth 100000
/-! TkTree: the trees (all of them, 2 to 5 boxes) and what the program's and the law's tree defs say of each. -/
namespace Tk
open PySem
def nI (n : Nat) : D := .int (n : Int)
def nL (l : List Nat) : List D := l.map nI
def treeD (t : List Nat) : D := .list (nL t)
def trees : List (List Nat) := [[0, 1], [0, 0, 1], [0, 1, 0], [0, 1, 1], [0, 1, 2], [0, 0, 0, 1], [0, 0, 1, 0], [0, 0, 1, 1], [0, 0, 1, 2], [0, 1, 0, 0], [0, 1, 0, 1], [0, 1, 1, 0], [0, 1, 1, 1], [0, 1, 1, 2], [0, 1, 2, 0], [0, 1, 2, 1], [0, 1, 2, 2], [0, 1, 2, 3], [0, 0, 0, 0, 1], [0, 0, 0, 1, 0], [0, 0, 0, 1, 1], [0, 0, 0, 1, 2], [0, 0, 1, 0, 0], [0, 0, 1, 0, 1], [0, 0, 1, 1, 0], [0, 0, 1, 1, 1], [0, 0, 1, 1, 2], [0, 0, 1, 2, 0], [0, 0, 1, 2, 1], [0, 0, 1, 2, 2], [0, 0, 1, 2, 3], [0, 1, 0, 0, 0], [0, 1, 0, 0, 1], [0, 1, 0, 1, 0], [0, 1, 0, 1, 1], [0, 1, 0, 1, 2], [0, 1, 1, 0, 0], [0, 1, 1, 0, 1], [0, 1, 1, 1, 0], [0, 1, 1, 1, 1], [0, 1, 1, 1, 2], [0, 1, 1, 2, 0], [0, 1, 1, 2, 1], [0, 1, 1, 2, 2], [0, 1, 1, 2, 3], [0, 1, 2, 0, 0], [0, 1, 2, 0, 1], [0, 1, 2, 1, 0], [0, 1, 2, 1, 1], [0, 1, 2, 1, 2], [0, 1, 2, 2, 0], [0, 1, 2, 2, 1], [0, 1, 2, 2, 2], [0, 1, 2, 2, 3], [0, 1, 2, 3, 0], [0, 1, 2, 3, 1], [0, 1, 2, 3, 2], [0, 1, 2, 3, 3], [0, 1, 2, 3, 4]]
/-- the boxes above b, from the nearest -/
def abvG (t : List Nat) : List Nat → Nat → List Nat
  | [], _ => []
  | o :: os, d => if t.getD o 0 < d then o :: abvG t os (t.getD o 0) else abvG t os d
def abv (t : List Nat) (b : Nat) : List Nat := abvG t (List.range b).reverse (t.getD b 0)
def ch (t : List Nat) (b : Nat) : List Nat := (List.range t.length).filter fun k => (abv t k).head? == some b
def roots (t : List Nat) : List Nat := (List.range t.length).filter fun k => (abv t k).head? == none
def bel (t : List Nat) (b : Nat) : List Nat := (List.range t.length).filter fun k => (abv t k).contains b
def lvs (t : List Nat) : List Nat := (List.range t.length).filter fun k => (ch t k).isEmpty
/-- the boxes side by side with b, b among them -/
def sis (t : List Nat) (b : Nat) : List Nat := match abv t b with
  | [] => roots t
  | h :: _ => ch t h
def eqL : List D → List Nat → Bool
  | [], [] => true
  | .int i :: ds, n :: ns => decide (i = n) && eqL ds ns
  | _, _ => false
def okL (r : O D) (l : List Nat) : Bool := match r with
  | .ok (.list ds) => eqL ds l
  | _ => false
def okI (r : O D) (i : Int) : Bool := match r with
  | .ok (.int j) => decide (j = i)
  | _ => false
def okB (r : O D) (i : Bool) : Bool := match r with
  | .ok (.bool j) => decide (j = i)
  | _ => false
theorem eqL_eq : ∀ {ds : List D} {l : List Nat}, eqL ds l = true → ds = nL l
  | [], [], _ => rfl
  | d :: ds, n :: ns, h => by
    cases d <;> simp [eqL] at h
    obtain ⟨h1, h2⟩ := h
    rw [eqL_eq h2, h1]
    rfl
  | [], _ :: _, h => by simp [eqL] at h
  | d :: _, [], h => by cases d <;> simp [eqL] at h
theorem okL_eq {r : O D} {l : List Nat} (h : okL r l = true) : r = .ok (.list (nL l)) := by
  unfold okL at h
  split at h
  · rw [eqL_eq h]
  · cases h
theorem okI_eq {r : O D} {i : Int} (h : okI r i = true) : r = .ok (.int i) := by
  unfold okI at h
  split at h
  · rw [of_decide_eq_true h]
  · cases h
theorem okB_eq {r : O D} {i : Bool} (h : okB r i = true) : r = .ok (.bool i) := by
  unfold okB at h
  split at h
  · rw [of_decide_eq_true h]
  · cases h
def parI (l : List Nat) : Int := match l with
  | [] => -1
  | h :: _ => h
def boxB (t : List Nat) (b : Nat) : Bool :=
  okL (M_children_of [treeD t, .int b]) (ch t b) && okL (M_law_children [treeD t, .int b]) (ch t b) && okL (M_law_above [treeD t, .int b]) (abv t b) && okL (M_below [treeD t, .int b]) (bel t b)
    && okI (M_parent_of [treeD t, .int b]) (parI (abv t b)) && okL (M_children_of [treeD t, .int (parI (abv t b))]) (sis t b)
def treeB (t : List Nat) : Bool := (List.range t.length).all (boxB t) && okL (M_leaves_of [treeD t]) (lvs t) && okL (M_law_leaves [treeD t]) (lvs t) && okB (M_is_tree [treeD t]) true
theorem treesB : trees.all treeB = true := by decide +kernel
end Tk
set_option linter.all false
set_option Elab.async false
set_option maxRecDepth 100000
set_option maxHeartbeats 1000000
/-! TkSim: running the small language on values that are not closed. -/
namespace Tk
open PySem
theorem compL_ok {α : Type} {tg : Tg} {c : Env → DS → R Bool} {f : Env → DS → R D} {ρ : Env} {δ : DS} {h : α → D} (p : α → Bool) (g : α → D) : ∀ (l : List α), (∀ x ∈ l, ∃ ρ1, bindT ρ tg (h x) = some ρ1 ∧ c ρ1 δ = .ok (p x) δ ∧ (p x = true → f ρ1 δ = .ok (g x) δ)) → compL tg c f ρ (l.map h) δ = .ok ((l.filter p).map g) δ
  | [], _ => rfl
  | x :: l, H => by
    obtain ⟨ρ1, e1, e2, e3⟩ := H x (by simp)
    have ih := compL_ok p g l fun y hy => H y (by simp [hy])
    simp only [List.map_cons, compL, e1, e2, R.bind_ok, List.filter_cons]
    cases hp : p x with
    | true => simp [e3 hp, ih]
    | false => simp [ih]
theorem loopF_ok {α σ J : Type} {tg : Tg} {b : Env → DS → R Fl} {δ : DS} {h : α → D} (mk : σ → J → Env) (f : σ → α → σ) (P : σ → Prop) : ∀ (l : List α) (s : σ) (j : J), P s → (∀ s j x, x ∈ l → P s → P (f s x) ∧ ∃ ρ1 j', bindT (mk s j) tg (h x) = some ρ1 ∧ b ρ1 δ = .ok (.nx (mk (f s x) j')) δ) → P (l.foldl f s) ∧ ∃ j', loopF tg b (l.map h) (mk s j) δ = .ok (.nx (mk (l.foldl f s) j')) δ
  | [], s, j, hp, _ => ⟨hp, j, rfl⟩
  | x :: l, s, j, hp, H => by
    obtain ⟨hp1, ρ1, j1, e1, e2⟩ := H s j x (by simp) hp
    have ih := loopF_ok mk f P l (f s x) j1 hp1 fun s j y hy => H s j y (by simp [hy])
    obtain ⟨h1, j', h2⟩ := ih
    refine ⟨h1, j', ?_⟩
    simp only [List.map_cons, loopF, e1, e2, R.bind_ok]
    exact h2
def iL (l : List Int) : List D := l.map .int
@[simp] theorem iL_len (l : List Int) : (iL l).length = l.length := by simp [iL]
@[simp] theorem nL_len (l : List Nat) : (nL l).length = l.length := by simp [nL]
theorem atI_nat {xs : List Int} {b : Nat} (h : b < xs.length) : L2.atI (iL xs) (b : Int) = some (.int (xs.getD b 0)) := by
  unfold L2.atI
  rw [show L2.ixN (iL xs).length (b : Int) = some b by
    unfold L2.ixN
    rw [iL_len, if_pos (by omega), if_pos (by omega)]
    simp]
  simp [iL, List.getElem?_eq_getElem h, List.getD_eq_getElem?_getD]
/-! ### the trees' facts -/
section
variable {t : List Nat} {b : Nat}
theorem boxF (ht : t ∈ trees) (hb : b < t.length) : boxB t b = true := by
  have h := List.all_eq_true.mp treesB t ht
  simp only [treeB, Bool.and_eq_true, List.all_eq_true, List.mem_range] at h
  exact h.1.1.1 b hb
theorem e_children (ht : t ∈ trees) (hb : b < t.length) : M_children_of [treeD t, .int b] = .ok (.list (nL (ch t b))) := by
  have h := boxF ht hb
  simp only [boxB, Bool.and_eq_true] at h
  exact okL_eq h.1.1.1.1.1
theorem e_lchildren (ht : t ∈ trees) (hb : b < t.length) : M_law_children [treeD t, .int b] = .ok (.list (nL (ch t b))) := by
  have h := boxF ht hb
  simp only [boxB, Bool.and_eq_true] at h
  exact okL_eq h.1.1.1.1.2
theorem e_above (ht : t ∈ trees) (hb : b < t.length) : M_law_above [treeD t, .int b] = .ok (.list (nL (abv t b))) := by
  have h := boxF ht hb
  simp only [boxB, Bool.and_eq_true] at h
  exact okL_eq h.1.1.1.2
theorem e_below (ht : t ∈ trees) (hb : b < t.length) : M_below [treeD t, .int b] = .ok (.list (nL (bel t b))) := by
  have h := boxF ht hb
  simp only [boxB, Bool.and_eq_true] at h
  exact okL_eq h.1.1.2
theorem e_parent (ht : t ∈ trees) (hb : b < t.length) : M_parent_of [treeD t, .int b] = .ok (.int (parI (abv t b))) := by
  have h := boxF ht hb
  simp only [boxB, Bool.and_eq_true] at h
  exact okI_eq h.1.2
theorem e_sis (ht : t ∈ trees) (hb : b < t.length) : M_children_of [treeD t, .int (parI (abv t b))] = .ok (.list (nL (sis t b))) := by
  have h := boxF ht hb
  simp only [boxB, Bool.and_eq_true] at h
  exact okL_eq h.2
theorem treeF (ht : t ∈ trees) : okL (M_leaves_of [treeD t]) (lvs t) = true ∧ okL (M_law_leaves [treeD t]) (lvs t) = true ∧ okB (M_is_tree [treeD t]) true = true := by
  have h := List.all_eq_true.mp treesB t ht
  simp only [treeB, Bool.and_eq_true] at h
  exact ⟨h.1.1.2, h.1.2, h.2⟩
theorem e_leaves (ht : t ∈ trees) : M_leaves_of [treeD t] = .ok (.list (nL (lvs t))) := okL_eq (treeF ht).1
theorem e_lleaves (ht : t ∈ trees) : M_law_leaves [treeD t] = .ok (.list (nL (lvs t))) := okL_eq (treeF ht).2.1
theorem e_is_tree (ht : t ∈ trees) : M_is_tree [treeD t] = .ok (.bool true) := okB_eq (treeF ht).2.2
theorem lvs_lt (h : b ∈ lvs t) : b < t.length := by simp [lvs] at h; exact h.1
theorem ch_lt {k : Nat} (h : k ∈ ch t b) : k < t.length := by simp [ch] at h; exact h.1
theorem bel_lt {k : Nat} (h : k ∈ bel t b) : k < t.length := by simp [bel] at h; exact h.1
end
/-! ### rows for simp -/
def andR (x : D) (r : DS → R D) (δ : DS) : R D := match x with
  | .bool true => (r δ).bind fun y δ => R.ofOpt δ ((asBool y).map .bool)
  | .bool false => .ok (.bool false) δ
  | _ => .bad
def orR (x : D) (r : DS → R D) (δ : DS) : R D := match x with
  | .bool false => (r δ).bind fun y δ => R.ofOpt δ ((asBool y).map .bool)
  | .bool true => .ok (.bool true) δ
  | _ => .bad
def iteR (x : D) (a b : R D) : R D := match x with
  | .bool true => a
  | .bool false => b
  | _ => .bad
def chR (x y : D) (r : DS → R D) (δ : DS) : R D := match x, y with
    | .int i, .int j => if i ≤ j then (r δ).bind fun z δ => R.ofOpt δ ((asInt z).map fun l => .bool (decide (j ≤ l))) else .ok (.bool false) δ
    | _, _ => .bad
def caR (F : Tab) (f : Str) (ds : List D) (δ : DS) : R D := match F f with
    | some (.pu g) => R.ofO δ (g ds)
    | _ => .bad
def flR (f : Fl) (k : Env → R Fl) (δ : DS) : R Fl := match f with
    | .nx ρ' => k ρ'
    | .rt d => .ok (.rt d) δ
def n1 (x : D) : Option (List D) := match x with
    | .int n => if n ≤ 100000 ∧ -100000 ≤ n then some (rangeD 0 n.toNat) else none
    | _ => none
def revR (x : D) (δ : DS) : R D := match x with
    | .list xs => .ok (.list xs.reverse) δ
    | _ => .bad
def stiR (ρ : Env) (e : E) (d : D) (i : Nat) (j : D) : Option Fl := match (keepS ρ e d)[i]?, j with
        | some (.ow (.list ds)), .int j => (L2.ixN ds.length j).map fun j => .nx ((keepS ρ e d).set i (.ow (.list (ds.set j d))))
        | some (.ow (.dict kvs)), j => if isKey j && decide (kvs.length < big) then some (.nx ((keepS ρ e d).set i (.ow (.dict (dput kvs j d))))) else none
        | _, _ => none
def appR (ρ : Env) (e : E) (d : D) (i : Nat) : Option Fl := match (keepE ρ e d)[i]? with
        | some (.ow (.list ds)) => if ds.length < big then some (.nx ((keepE ρ e d).set i (.ow (.list (ds ++ [d]))))) else none
        | _ => none
section
variable {F : Tab} {ρ : Env} {δ : DS} {a b c e : E} {es : Es}
@[simp] theorem x_k {d : D} : ev F (.k d) ρ δ = .ok d δ := rfl
@[simp] theorem x_gl {x : Str} {d : D} : ev F (.gl x d) ρ δ = .ok d δ := rfl
@[simp] theorem x_v {i : Nat} : ev F (.v i) ρ δ = R.ofOpt δ (look ρ i) := rfl
@[simp] theorem x_bin {o : BO} : ev F (.bin o a b) ρ δ = (ev F a ρ δ).bind fun x δ => (ev F b ρ δ).bind fun y δ => R.ofOpt δ (opD o x y) := rfl
@[simp] theorem x_neg : ev F (.neg a) ρ δ = (ev F a ρ δ).bind fun x δ => R.ofOpt δ ((asInt x).map fun i => .int (-i)) := rfl
@[simp] theorem x_no : ev F (.no a) ρ δ = (ev F a ρ δ).bind fun x δ => R.ofOpt δ ((asBool x).map fun b => .bool (!b)) := rfl
@[simp] theorem x_an : ev F (.an a b) ρ δ = (ev F a ρ δ).bind fun x δ => andR x (ev F b ρ) δ := rfl
@[simp] theorem x_or : ev F (.or a b) ρ δ = (ev F a ρ δ).bind fun x δ => orR x (ev F b ρ) δ := rfl
@[simp] theorem x_cm {o : CO} : ev F (.cm o a b) ρ δ = (ev F a ρ δ).bind fun x δ => (ev F b ρ δ).bind fun y δ => R.ofOpt δ ((cmD o x y).map .bool) := rfl
@[simp] theorem x_ch : ev F (.ch a b c) ρ δ = (ev F a ρ δ).bind fun x δ => (ev F b ρ δ).bind fun y δ => chR x y (ev F c ρ) δ := rfl
@[simp] theorem x_isb {n t : Bool} : ev F (.isb n t a) ρ δ = (ev F a ρ δ).bind fun x δ => R.ofOpt δ ((asBool x).map fun b => .bool (if n then !decide (b = t) else decide (b = t))) := rfl
@[simp] theorem x_ite : ev F (.ite c a b) ρ δ = (ev F c ρ δ).bind fun x δ => iteR x (ev F a ρ δ) (ev F b ρ δ) := rfl
@[simp] theorem x_ix : ev F (.ix a b) ρ δ = (ev F a ρ δ).bind fun x δ => (ev F b ρ δ).bind fun y δ => R.ofOpt δ (ixD x y) := rfl
@[simp] theorem x_sl {lo hi : E} : ev F (.sl a lo hi) ρ δ = (ev F a ρ δ).bind fun x δ => (if isNa lo then .ok none δ else (ev F lo ρ δ).bind fun y δ => R.ofOpt δ ((asInt y).map some)).bind fun l δ => (if isNa hi then .ok none δ else (ev F hi ρ δ).bind fun y δ => R.ofOpt δ ((asInt y).map some)).bind fun h δ => R.ofOpt δ (slD x l h) := rfl
@[simp] theorem x_rv : ev F (.rv a) ρ δ = (ev F a ρ δ).bind fun x δ => revR x δ := rfl
@[simp] theorem x_ca {f : Str} : ev F (.ca f es) ρ δ = (evs F es ρ δ).bind fun ds δ => caR F f ds δ := rfl
@[simp] theorem x_cf {f : Str} : ev F (.cf f es) ρ δ = (evs F es ρ δ).bind fun ds δ => caR F f ds δ := rfl
@[simp] theorem x_bu {u : BU} : ev F (.bu u es) ρ δ = (evs F es ρ δ).bind fun ds δ => R.ofOpt δ (buD u ds) := rfl
@[simp] theorem x_dn : ev F .dn ρ δ = .ok (.dict []) δ := rfl
@[simp] theorem x_d1 : ev F (.d1 a b) ρ δ = (ev F a ρ δ).bind fun x δ => (ev F b ρ δ).bind fun y δ => R.ofOpt δ (if isKey x then some (.dict [(x, y)]) else none) := rfl
def dgR (z : D) (k : (List (D × D)) → R D) : R D := match z with
  | .dict kvs => k kvs
  | _ => .bad
@[simp] theorem r_dg {kvs : List (D × D)} {k : (List (D × D)) → R D} : dgR (.dict kvs) k = k kvs := rfl
@[simp] theorem x_dg : ev F (.dg a b c) ρ δ = (ev F a ρ δ).bind fun z δ => dgR z fun kvs => (ev F b ρ δ).bind fun y δ => (ev F c ρ δ).bind fun w δ => R.ofOpt δ (if isKey y then some ((dget kvs y).getD w) else none) := by
  simp only [ev]
  congr 1
@[simp] theorem x_isi {t : TY} : ev F (.isi t a) ρ δ = (ev F a ρ δ).bind fun x δ => .ok (.bool (isTy t x)) δ := rfl
@[simp] theorem x_ls : ev F (.ls es) ρ δ = (evs F es ρ δ).bind fun ds δ => .ok (.list ds) δ := rfl
@[simp] theorem x_tu : ev F (.tu es) ρ δ = (evs F es ρ δ).bind fun ds δ => .ok (.tuple ds) δ := rfl
@[simp] theorem x_co {tg : Tg} {it : I} : ev F (.co e tg it c) ρ δ = if clear ρ (escI it) && clear ρ tg.ixs then (evI F it ρ δ).bind fun xs δ =>
      (noEr (compL tg (evB F c) (ev F e) (wipeE ρ tg.ixs) xs δ)).bind fun ys δ => .ok (.list ys) δ else .bad := rfl
@[simp] theorem x_nil : evs F .nil ρ δ = .ok [] δ := rfl
@[simp] theorem x_cons : evs F (.cons e es) ρ δ = (ev F e ρ δ).bind fun x δ => (evs F es ρ δ).bind fun xs δ => .ok (x :: xs) δ := rfl
@[simp] theorem x_sq : evI F (.sq e) ρ δ = (ev F e ρ δ).bind fun x δ => R.ofOpt δ (itemsD x) := rfl
@[simp] theorem x_r1 : evI F (.r1 e) ρ δ = (ev F e ρ δ).bind fun x δ => R.ofOpt δ (n1 x) := rfl
@[simp] theorem x_evB : evB F c ρ δ = (ev F c ρ δ).bind fun x δ => R.ofOpt δ (asBool x) := rfl
@[simp] theorem sx_sk : exec F .sk ρ δ = .ok (.nx ρ) δ := rfl
@[simp] theorem sx_sq {a b : S} : exec F (.sq a b) ρ δ = (exec F a ρ δ).bind fun f δ => flR f (fun ρ => exec F b ρ δ) δ := rfl
@[simp] theorem sx_set {i : Nat} : exec F (.set i e) ρ δ = (ev F e ρ δ).bind fun d δ => R.ofOpt δ ((store ρ i e d).map .nx) := rfl
@[simp] theorem sx_sets {ts : List Nat} : exec F (.sets ts es) ρ δ = (evs F es (frz ρ (escs es)) δ).bind fun ds δ => R.ofOpt δ ((stores (frz ρ (escs es)) ts es ds).map .nx) := rfl
@[simp] theorem sx_ex : exec F (.ex e) ρ δ = (ev F e ρ δ).bind fun _ δ => .ok (.nx ρ) δ := rfl
@[simp] theorem sx_ret : exec F (.ret e) ρ δ = (ev F e ρ δ).bind fun d δ => .ok (.rt d) δ := rfl
@[simp] theorem sx_ifs {a b : S} : exec F (.ifs c a b) ρ δ = (evB F c ρ δ).bind fun t δ => if t then exec F a ρ δ else exec F b ρ δ := rfl
@[simp] theorem sx_fors {tg : Tg} {it : I} {b : S} : exec F (.fors tg it b) ρ δ = if clear ρ (escI it) then (evI F it ρ δ).bind fun xs δ => loopF tg (exec F b) xs (frz ρ (escR it)) δ else .bad := rfl
@[simp] theorem sx_sti {i : Nat} {k : E} : exec F (.sti i k e) ρ δ = (ev F e ρ δ).bind fun d δ => if owned ρ i then (ev F k ρ δ).bind fun j δ => R.ofOpt δ (stiR ρ e d i j) else .bad := rfl
@[simp] theorem sx_app {i : Nat} : exec F (.app i e) ρ δ = if ownL ρ i then (ev F e ρ δ).bind fun d δ => R.ofOpt δ (appR ρ e d i) else .bad := rfl
@[simp] theorem sx_wh {b : S} : exec F (.wh c b) ρ δ = loopW (evB F c) (exec F b) 100000 ρ δ := rfl
@[simp] theorem r_flnx {k : Env → R Fl} : flR (.nx ρ) k δ = k ρ := rfl
@[simp] theorem r_flrt {d : D} {k : Env → R Fl} : flR (.rt d) k δ = .ok (.rt d) δ := rfl
theorem r_an {x y : Bool} {r : DS → R D} (h : r δ = .ok (.bool y) δ) : andR (.bool x) r δ = .ok (.bool (x && y)) δ := by cases x <;> simp [andR, h, asBool]
@[simp] theorem r_anf {r : DS → R D} : andR (.bool false) r δ = .ok (.bool false) δ := rfl
@[simp] theorem r_ant {r : DS → R D} : andR (.bool true) r δ = (r δ).bind fun y δ => R.ofOpt δ ((asBool y).map .bool) := rfl
theorem r_or {x y : Bool} {r : DS → R D} (h : r δ = .ok (.bool y) δ) : orR (.bool x) r δ = .ok (.bool (x || y)) δ := by cases x <;> simp [orR, h, asBool]
@[simp] theorem r_ort {r : DS → R D} : orR (.bool true) r δ = .ok (.bool true) δ := rfl
@[simp] theorem r_orf {r : DS → R D} : orR (.bool false) r δ = (r δ).bind fun y δ => R.ofOpt δ ((asBool y).map .bool) := rfl
@[simp] theorem r_ite {x : Bool} {p q : R D} : iteR (.bool x) p q = if x then p else q := by cases x <;> rfl
@[simp] theorem r_ch {i j : Int} {r : DS → R D} : chR (.int i) (.int j) r δ = if i ≤ j then (r δ).bind fun z δ => R.ofOpt δ ((asInt z).map fun l => .bool (decide (j ≤ l))) else .ok (.bool false) δ := rfl
@[simp] theorem r_ai {i : Int} : asInt (.int i) = some i := rfl
@[simp] theorem r_ab {i : Bool} : asBool (.bool i) = some i := rfl
@[simp] theorem r_il {xs : List D} : itemsD (.list xs) = some xs := rfl
@[simp] theorem r_it {xs : List D} : itemsD (.tuple xs) = some xs := rfl
@[simp] theorem r_rev {xs : List D} : revR (.list xs) δ = .ok (.list xs.reverse) δ := rfl
@[simp] theorem r_ixl {xs : List D} {i : Int} : ixD (.list xs) (.int i) = L2.atI xs i := rfl
@[simp] theorem r_ixt {xs : List D} {i : Int} : ixD (.tuple xs) (.int i) = L2.atI xs i := rfl
@[simp] theorem r_noE {α : Type} {x : α} : noEr (.ok x δ) = .ok x δ := rfl
@[simp] theorem r_lenl {xs : List D} : buD .len [.list xs] = some (.int xs.length) := rfl
@[simp] theorem r_lent {xs : List D} : buD .len [.tuple xs] = some (.int xs.length) := rfl
@[simp] theorem r_lil {xs : List D} : buD .list [.list xs] = some (.list xs) := rfl
@[simp] theorem r_lit {xs : List D} : buD .list [.tuple xs] = some (.list xs) := rfl
@[simp] theorem r_tul {xs : List D} : buD .tuple [.list xs] = some (.tuple xs) := rfl
@[simp] theorem r_tut {xs : List D} : buD .tuple [.tuple xs] = some (.tuple xs) := rfl
@[simp] theorem r_all {xs : List D} : buD .all [.list xs] = (asBools xs).map fun bs => .bool (bs.all id) := rfl
@[simp] theorem r_any {xs : List D} : buD .any [.list xs] = (asBools xs).map fun bs => .bool (bs.any id) := rfl
@[simp] theorem r_sub {i j : Int} : opD .sub (.int i) (.int j) = some (.int (i - j)) := rfl
@[simp] theorem r_add {i j : Int} : opD .add (.int i) (.int j) = some (.int (i + j)) := rfl
@[simp] theorem r_cat {xs ys : List D} : opD .add (.list xs) (.list ys) = if xs.length + ys.length ≤ big then some (.list (xs ++ ys)) else none := rfl
@[simp] theorem r_rep {xs : List D} {k : Int} : opD .mul (.list xs) (.int k) = if k ≤ 1000 ∧ -1000 ≤ k ∧ xs.length ≤ 1000 then some (.list (List.replicate k.toNat xs).flatten) else none := rfl
@[simp] theorem r_eq {x y : D} : cmD .eq x y = if SeqAt.shaped x && SeqAt.shaped y then some (PyData.eqv x y) else none := rfl
@[simp] theorem r_ne {x y : D} : cmD .ne x y = if SeqAt.shaped x && SeqAt.shaped y then some (!PyData.eqv x y) else none := rfl
@[simp] theorem r_lt {i j : Int} : cmD .lt (.int i) (.int j) = some (decide (i < j)) := rfl
@[simp] theorem r_le {i j : Int} : cmD .le (.int i) (.int j) = some (decide (i ≤ j)) := rfl
@[simp] theorem r_gt {i j : Int} : cmD .gt (.int i) (.int j) = some (decide (j < i)) := rfl
@[simp] theorem r_ge {i j : Int} : cmD .ge (.int i) (.int j) = some (decide (j ≤ i)) := rfl
@[simp] theorem r_shi {i : Int} : SeqAt.shaped (.int i) = true := rfl
@[simp] theorem r_shb {i : Bool} : SeqAt.shaped (.bool i) = true := rfl
theorem r_shs {i : Str} : SeqAt.shaped (.str i) = SeqAt.shaped (.str i) := rfl
@[simp] theorem r_eqi {i j : Int} : PyData.eqv (.int i) (.int j) = (i == j) := rfl
@[simp] theorem r_eqs {i j : Str} : PyData.eqv (.str i) (.str j) = (i == j) := rfl
@[simp] theorem r_eqb {i j : Bool} : PyData.eqv (.bool i) (.bool j) = (i == j) := rfl
@[simp] theorem r_bn {i : Nat} {d : D} : bindT ρ (.n i) d = if i < ρ.length then some (ρ.set i (.va d)) else none := rfl
@[simp] theorem r_outrt {d : D} : outP (.ok (.rt d) δ) = .ok d := rfl
@[simp] theorem r_outnx : outP (.ok (.nx ρ) δ) = .ok .none := rfl
@[simp] theorem r_outer {c : Str} : outP (.er c δ) = .er c := rfl
@[simp] theorem r_n1 {i : Int} : n1 (.int i) = if i ≤ 100000 ∧ -100000 ≤ i then some (rangeD 0 i.toNat) else none := rfl
end
@[simp] theorem u_esc_na  : esc .na = [] := rfl
@[simp] theorem u_esc1_na  : esc1 .na = [] := rfl
@[simp] theorem u_fresh_na  : fresh .na = false := rfl
@[simp] theorem u_isNa_na  : isNa .na = true := rfl
@[simp] theorem u_esc_k {d : D} : esc (.k d) = [] := rfl
@[simp] theorem u_esc1_k {d : D} : esc1 (.k d) = [] := rfl
@[simp] theorem u_fresh_k {d : D} : fresh (.k d) = false := rfl
@[simp] theorem u_isNa_k {d : D} : isNa (.k d) = false := rfl
@[simp] theorem u_esc_v {i : Nat} : esc (.v i) = [i] := rfl
@[simp] theorem u_esc1_v {i : Nat} : esc1 (.v i) = [] := rfl
@[simp] theorem u_fresh_v {i : Nat} : fresh (.v i) = false := rfl
@[simp] theorem u_isNa_v {i : Nat} : isNa (.v i) = false := rfl
@[simp] theorem u_esc_gl {x : Str} {d : D} : esc (.gl x d) = [] := rfl
@[simp] theorem u_esc1_gl {x : Str} {d : D} : esc1 (.gl x d) = [] := rfl
@[simp] theorem u_fresh_gl {x : Str} {d : D} : fresh (.gl x d) = false := rfl
@[simp] theorem u_isNa_gl {x : Str} {d : D} : isNa (.gl x d) = false := rfl
@[simp] theorem u_esc_neg {a : E} : esc (.neg a) = [] := rfl
@[simp] theorem u_esc1_neg {a : E} : esc1 (.neg a) = [] := rfl
@[simp] theorem u_fresh_neg {a : E} : fresh (.neg a) = false := rfl
@[simp] theorem u_isNa_neg {a : E} : isNa (.neg a) = false := rfl
@[simp] theorem u_esc_no {a : E} : esc (.no a) = [] := rfl
@[simp] theorem u_esc1_no {a : E} : esc1 (.no a) = [] := rfl
@[simp] theorem u_fresh_no {a : E} : fresh (.no a) = false := rfl
@[simp] theorem u_isNa_no {a : E} : isNa (.no a) = false := rfl
@[simp] theorem u_esc_an {a b : E} : esc (.an a b) = [] := rfl
@[simp] theorem u_esc1_an {a b : E} : esc1 (.an a b) = [] := rfl
@[simp] theorem u_fresh_an {a b : E} : fresh (.an a b) = false := rfl
@[simp] theorem u_isNa_an {a b : E} : isNa (.an a b) = false := rfl
@[simp] theorem u_esc_or {a b : E} : esc (.or a b) = [] := rfl
@[simp] theorem u_esc1_or {a b : E} : esc1 (.or a b) = [] := rfl
@[simp] theorem u_fresh_or {a b : E} : fresh (.or a b) = false := rfl
@[simp] theorem u_isNa_or {a b : E} : isNa (.or a b) = false := rfl
@[simp] theorem u_esc_cm {o : CO} {a b : E} : esc (.cm o a b) = [] := rfl
@[simp] theorem u_esc1_cm {o : CO} {a b : E} : esc1 (.cm o a b) = [] := rfl
@[simp] theorem u_fresh_cm {o : CO} {a b : E} : fresh (.cm o a b) = false := rfl
@[simp] theorem u_isNa_cm {o : CO} {a b : E} : isNa (.cm o a b) = false := rfl
@[simp] theorem u_esc_ch {a b c : E} : esc (.ch a b c) = [] := rfl
@[simp] theorem u_esc1_ch {a b c : E} : esc1 (.ch a b c) = [] := rfl
@[simp] theorem u_fresh_ch {a b c : E} : fresh (.ch a b c) = false := rfl
@[simp] theorem u_isNa_ch {a b c : E} : isNa (.ch a b c) = false := rfl
@[simp] theorem u_esc_isn {n : Bool} {a : E} : esc (.isn n a) = [] := rfl
@[simp] theorem u_esc1_isn {n : Bool} {a : E} : esc1 (.isn n a) = [] := rfl
@[simp] theorem u_fresh_isn {n : Bool} {a : E} : fresh (.isn n a) = false := rfl
@[simp] theorem u_isNa_isn {n : Bool} {a : E} : isNa (.isn n a) = false := rfl
@[simp] theorem u_esc_isb {n t : Bool} {a : E} : esc (.isb n t a) = [] := rfl
@[simp] theorem u_esc1_isb {n t : Bool} {a : E} : esc1 (.isb n t a) = [] := rfl
@[simp] theorem u_fresh_isb {n t : Bool} {a : E} : fresh (.isb n t a) = false := rfl
@[simp] theorem u_isNa_isb {n t : Bool} {a : E} : isNa (.isb n t a) = false := rfl
@[simp] theorem u_esc_ite {c a b : E} : esc (.ite c a b) = esc a ++ esc b := rfl
@[simp] theorem u_esc1_ite {c a b : E} : esc1 (.ite c a b) = esc1 a ++ esc1 b := rfl
@[simp] theorem u_fresh_ite {c a b : E} : fresh (.ite c a b) = (fresh a && fresh b) := rfl
@[simp] theorem u_isNa_ite {c a b : E} : isNa (.ite c a b) = false := rfl
@[simp] theorem u_esc_ix {a b : E} : esc (.ix a b) = esc1 a := rfl
@[simp] theorem u_esc1_ix {a b : E} : esc1 (.ix a b) = esc1 a := rfl
@[simp] theorem u_fresh_ix {a b : E} : fresh (.ix a b) = false := rfl
@[simp] theorem u_isNa_ix {a b : E} : isNa (.ix a b) = false := rfl
@[simp] theorem u_esc_sl {a lo hi : E} : esc (.sl a lo hi) = esc1 a := rfl
@[simp] theorem u_esc1_sl {a lo hi : E} : esc1 (.sl a lo hi) = esc1 a := rfl
@[simp] theorem u_fresh_sl {a lo hi : E} : fresh (.sl a lo hi) = true := rfl
@[simp] theorem u_isNa_sl {a lo hi : E} : isNa (.sl a lo hi) = false := rfl
@[simp] theorem u_esc_rv {a : E} : esc (.rv a) = esc1 a := rfl
@[simp] theorem u_esc1_rv {a : E} : esc1 (.rv a) = esc1 a := rfl
@[simp] theorem u_fresh_rv {a : E} : fresh (.rv a) = true := rfl
@[simp] theorem u_isNa_rv {a : E} : isNa (.rv a) = false := rfl
@[simp] theorem u_esc_ca {f : Str} {es : Es} : esc (.ca f es) = escs es := rfl
@[simp] theorem u_esc1_ca {f : Str} {es : Es} : esc1 (.ca f es) = escs es := rfl
@[simp] theorem u_fresh_ca {f : Str} {es : Es} : fresh (.ca f es) = false := rfl
@[simp] theorem u_isNa_ca {f : Str} {es : Es} : isNa (.ca f es) = false := rfl
@[simp] theorem u_esc_cf {f : Str} {es : Es} : esc (.cf f es) = escs es := rfl
@[simp] theorem u_esc1_cf {f : Str} {es : Es} : esc1 (.cf f es) = escs es := rfl
@[simp] theorem u_fresh_cf {f : Str} {es : Es} : fresh (.cf f es) = true := rfl
@[simp] theorem u_isNa_cf {f : Str} {es : Es} : isNa (.cf f es) = false := rfl
@[simp] theorem u_esc_c0 {f : Str} : esc (.c0 f) = [] := rfl
@[simp] theorem u_esc1_c0 {f : Str} : esc1 (.c0 f) = [] := rfl
@[simp] theorem u_fresh_c0 {f : Str} : fresh (.c0 f) = false := rfl
@[simp] theorem u_isNa_c0 {f : Str} : isNa (.c0 f) = false := rfl
@[simp] theorem u_esc_dc {f : Str} {i : Nat} {es : Es} : esc (.dc f i es) = escs es := rfl
@[simp] theorem u_esc1_dc {f : Str} {i : Nat} {es : Es} : esc1 (.dc f i es) = escs es := rfl
@[simp] theorem u_fresh_dc {f : Str} {i : Nat} {es : Es} : fresh (.dc f i es) = false := rfl
@[simp] theorem u_isNa_dc {f : Str} {i : Nat} {es : Es} : isNa (.dc f i es) = false := rfl
@[simp] theorem u_esc_isi {t : TY} {a : E} : esc (.isi t a) = [] := rfl
@[simp] theorem u_esc1_isi {t : TY} {a : E} : esc1 (.isi t a) = [] := rfl
@[simp] theorem u_fresh_isi {t : TY} {a : E} : fresh (.isi t a) = false := rfl
@[simp] theorem u_isNa_isi {t : TY} {a : E} : isNa (.isi t a) = false := rfl
@[simp] theorem u_esc_ls {es : Es} : esc (.ls es) = escs es := rfl
@[simp] theorem u_esc1_ls {es : Es} : esc1 (.ls es) = escs es := rfl
@[simp] theorem u_fresh_ls {es : Es} : fresh (.ls es) = true := rfl
@[simp] theorem u_isNa_ls {es : Es} : isNa (.ls es) = false := rfl
@[simp] theorem u_esc_dn : esc (.dn : E) = [] := rfl
@[simp] theorem u_esc1_dn : esc1 (.dn : E) = [] := rfl
@[simp] theorem u_fresh_dn : fresh (.dn : E) = true := rfl
@[simp] theorem u_isNa_dn : isNa (.dn : E) = false := rfl
@[simp] theorem u_esc_d1 {k v : E} : esc (.d1 k v) = esc k ++ esc v := rfl
@[simp] theorem u_esc1_d1 {k v : E} : esc1 (.d1 k v) = esc k ++ esc v := rfl
@[simp] theorem u_fresh_d1 {k v : E} : fresh (.d1 k v) = true := rfl
@[simp] theorem u_isNa_d1 {k v : E} : isNa (.d1 k v) = false := rfl
@[simp] theorem u_esc_dg {a k x : E} : esc (.dg a k x) = esc1 a ++ esc x := rfl
@[simp] theorem u_esc1_dg {a k x : E} : esc1 (.dg a k x) = esc1 a ++ esc x := rfl
@[simp] theorem u_fresh_dg {a k x : E} : fresh (.dg a k x) = false := rfl
@[simp] theorem u_isNa_dg {a k x : E} : isNa (.dg a k x) = false := rfl
@[simp] theorem u_esc_tu {es : Es} : esc (.tu es) = escs es := rfl
@[simp] theorem u_esc1_tu {es : Es} : esc1 (.tu es) = escs es := rfl
@[simp] theorem u_fresh_tu {es : Es} : fresh (.tu es) = false := rfl
@[simp] theorem u_isNa_tu {es : Es} : isNa (.tu es) = false := rfl
@[simp] theorem u_esc_co {e : E} {tg : Tg} {it : I} {c : E} : esc (.co e tg it c) = (esc e).filter fun i => !tg.ixs.contains i := rfl
@[simp] theorem u_esc1_co {e : E} {tg : Tg} {it : I} {c : E} : esc1 (.co e tg it c) = (esc e).filter fun i => !tg.ixs.contains i := rfl
@[simp] theorem u_fresh_co {e : E} {tg : Tg} {it : I} {c : E} : fresh (.co e tg it c) = true := rfl
@[simp] theorem u_isNa_co {e : E} {tg : Tg} {it : I} {c : E} : isNa (.co e tg it c) = false := rfl
@[simp] theorem u_esc_bin_add {a b : E} : esc (.bin .add a b) = esc1 a ++ esc1 b := rfl
@[simp] theorem u_esc1_bin_add {a b : E} : esc1 (.bin .add a b) = esc1 a ++ esc1 b := rfl
@[simp] theorem u_fresh_bin_add {a b : E} : fresh (.bin .add a b) = true := rfl
@[simp] theorem u_isNa_bin_add {a b : E} : isNa (.bin .add a b) = false := rfl
@[simp] theorem u_esc_bin_sub {a b : E} : esc (.bin .sub a b) = [] := rfl
@[simp] theorem u_esc1_bin_sub {a b : E} : esc1 (.bin .sub a b) = [] := rfl
@[simp] theorem u_fresh_bin_sub {a b : E} : fresh (.bin .sub a b) = false := rfl
@[simp] theorem u_isNa_bin_sub {a b : E} : isNa (.bin .sub a b) = false := rfl
@[simp] theorem u_esc_bin_mul {a b : E} : esc (.bin .mul a b) = esc1 a := rfl
@[simp] theorem u_esc1_bin_mul {a b : E} : esc1 (.bin .mul a b) = esc1 a := rfl
@[simp] theorem u_fresh_bin_mul {a b : E} : fresh (.bin .mul a b) = true := rfl
@[simp] theorem u_isNa_bin_mul {a b : E} : isNa (.bin .mul a b) = false := rfl
@[simp] theorem u_esc_bin_fdiv {a b : E} : esc (.bin .fdiv a b) = [] := rfl
@[simp] theorem u_esc1_bin_fdiv {a b : E} : esc1 (.bin .fdiv a b) = [] := rfl
@[simp] theorem u_fresh_bin_fdiv {a b : E} : fresh (.bin .fdiv a b) = false := rfl
@[simp] theorem u_isNa_bin_fdiv {a b : E} : isNa (.bin .fdiv a b) = false := rfl
@[simp] theorem u_esc_bin_mod {a b : E} : esc (.bin .mod a b) = [] := rfl
@[simp] theorem u_esc1_bin_mod {a b : E} : esc1 (.bin .mod a b) = [] := rfl
@[simp] theorem u_fresh_bin_mod {a b : E} : fresh (.bin .mod a b) = false := rfl
@[simp] theorem u_isNa_bin_mod {a b : E} : isNa (.bin .mod a b) = false := rfl
@[simp] theorem u_esc_bin_pow {a b : E} : esc (.bin .pow a b) = [] := rfl
@[simp] theorem u_esc1_bin_pow {a b : E} : esc1 (.bin .pow a b) = [] := rfl
@[simp] theorem u_fresh_bin_pow {a b : E} : fresh (.bin .pow a b) = false := rfl
@[simp] theorem u_isNa_bin_pow {a b : E} : isNa (.bin .pow a b) = false := rfl
@[simp] theorem u_esc_bu_len {es : Es} : esc (.bu .len es) = [] := rfl
@[simp] theorem u_esc1_bu_len {es : Es} : esc1 (.bu .len es) = [] := rfl
@[simp] theorem u_fresh_bu_len {es : Es} : fresh (.bu .len es) = false := rfl
@[simp] theorem u_isNa_bu_len {es : Es} : isNa (.bu .len es) = false := rfl
@[simp] theorem u_esc_bu_list {es : Es} : esc (.bu .list es) = escs1 es := rfl
@[simp] theorem u_esc1_bu_list {es : Es} : esc1 (.bu .list es) = escs1 es := rfl
@[simp] theorem u_fresh_bu_list {es : Es} : fresh (.bu .list es) = true := rfl
@[simp] theorem u_isNa_bu_list {es : Es} : isNa (.bu .list es) = false := rfl
@[simp] theorem u_esc_bu_tuple {es : Es} : esc (.bu .tuple es) = escs1 es := rfl
@[simp] theorem u_esc1_bu_tuple {es : Es} : esc1 (.bu .tuple es) = escs1 es := rfl
@[simp] theorem u_fresh_bu_tuple {es : Es} : fresh (.bu .tuple es) = false := rfl
@[simp] theorem u_isNa_bu_tuple {es : Es} : isNa (.bu .tuple es) = false := rfl
@[simp] theorem u_esc_bu_max1 {es : Es} : esc (.bu .max1 es) = [] := rfl
@[simp] theorem u_esc1_bu_max1 {es : Es} : esc1 (.bu .max1 es) = [] := rfl
@[simp] theorem u_fresh_bu_max1 {es : Es} : fresh (.bu .max1 es) = false := rfl
@[simp] theorem u_isNa_bu_max1 {es : Es} : isNa (.bu .max1 es) = false := rfl
@[simp] theorem u_esc_bu_max2 {es : Es} : esc (.bu .max2 es) = [] := rfl
@[simp] theorem u_esc1_bu_max2 {es : Es} : esc1 (.bu .max2 es) = [] := rfl
@[simp] theorem u_fresh_bu_max2 {es : Es} : fresh (.bu .max2 es) = false := rfl
@[simp] theorem u_isNa_bu_max2 {es : Es} : isNa (.bu .max2 es) = false := rfl
@[simp] theorem u_esc_bu_min1 {es : Es} : esc (.bu .min1 es) = [] := rfl
@[simp] theorem u_esc1_bu_min1 {es : Es} : esc1 (.bu .min1 es) = [] := rfl
@[simp] theorem u_fresh_bu_min1 {es : Es} : fresh (.bu .min1 es) = false := rfl
@[simp] theorem u_isNa_bu_min1 {es : Es} : isNa (.bu .min1 es) = false := rfl
@[simp] theorem u_esc_bu_sum {es : Es} : esc (.bu .sum es) = [] := rfl
@[simp] theorem u_esc1_bu_sum {es : Es} : esc1 (.bu .sum es) = [] := rfl
@[simp] theorem u_fresh_bu_sum {es : Es} : fresh (.bu .sum es) = false := rfl
@[simp] theorem u_isNa_bu_sum {es : Es} : isNa (.bu .sum es) = false := rfl
@[simp] theorem u_esc_bu_all {es : Es} : esc (.bu .all es) = [] := rfl
@[simp] theorem u_esc1_bu_all {es : Es} : esc1 (.bu .all es) = [] := rfl
@[simp] theorem u_fresh_bu_all {es : Es} : fresh (.bu .all es) = false := rfl
@[simp] theorem u_isNa_bu_all {es : Es} : isNa (.bu .all es) = false := rfl
@[simp] theorem u_esc_bu_any {es : Es} : esc (.bu .any es) = [] := rfl
@[simp] theorem u_esc1_bu_any {es : Es} : esc1 (.bu .any es) = [] := rfl
@[simp] theorem u_fresh_bu_any {es : Es} : fresh (.bu .any es) = false := rfl
@[simp] theorem u_isNa_bu_any {es : Es} : isNa (.bu .any es) = false := rfl
@[simp] theorem u_esc_bu_lrange {es : Es} : esc (.bu .lrange es) = [] := rfl
@[simp] theorem u_esc1_bu_lrange {es : Es} : esc1 (.bu .lrange es) = [] := rfl
@[simp] theorem u_fresh_bu_lrange {es : Es} : fresh (.bu .lrange es) = true := rfl
@[simp] theorem u_isNa_bu_lrange {es : Es} : isNa (.bu .lrange es) = false := rfl
@[simp] theorem u_escs_n : escs .nil = [] := rfl
@[simp] theorem u_escs_c {e : E} {es : Es} : escs (.cons e es) = esc e ++ escs es := rfl
@[simp] theorem u_escs1_n : escs1 .nil = [] := rfl
@[simp] theorem u_escs1_c {e : E} {es : Es} : escs1 (.cons e es) = esc1 e ++ escs1 es := rfl
@[simp] theorem u_escI_sq {e : E} : escI (.sq e) = esc1 e := rfl
@[simp] theorem u_escI_r1 {e : E} : escI (.r1 e) = [] := rfl
@[simp] theorem u_escI_r2 {a b : E} : escI (.r2 a b) = [] := rfl
@[simp] theorem u_escI_en {e : E} : escI (.en e) = esc1 e := rfl
@[simp] theorem u_escI_zp {a b : E} : escI (.zp a b) = esc1 a ++ esc1 b := rfl
@[simp] theorem u_escI_ez {a b : E} : escI (.ez a b) = esc1 a ++ esc1 b := rfl
@[simp] theorem u_escR_sq {e : E} : escR (.sq e) = esc e := rfl
@[simp] theorem u_escR_r1 {e : E} : escR (.r1 e) = [] := rfl
@[simp] theorem u_escR_r2 {a b : E} : escR (.r2 a b) = [] := rfl
@[simp] theorem u_escR_en {e : E} : escR (.en e) = esc e := rfl
@[simp] theorem u_escR_zp {a b : E} : escR (.zp a b) = esc a ++ esc b := rfl
@[simp] theorem u_escR_ez {a b : E} : escR (.ez a b) = esc a ++ esc b := rfl
@[simp] theorem u_ix_n {i : Nat} : Tg.ixs (.n i) = [i] := rfl
@[simp] theorem u_ix_t {l : Tgs} : Tg.ixs (.t l) = l.ixs := rfl
@[simp] theorem u_ixs_n : Tgs.ixs .nil = [] := rfl
@[simp] theorem u_ixs_c {a : Tg} {l : Tgs} : Tgs.ixs (.cons a l) = a.ixs ++ l.ixs := rfl
@[simp] theorem u_get_va {d : D} : Slot.get (.va d) = some d := rfl
@[simp] theorem u_get_ow {d : D} : Slot.get (.ow d) = some d := rfl
@[simp] theorem u_get_no : Slot.get .no = none := rfl
@[simp] theorem u_get_dr : Slot.get .dr = none := rfl
@[simp] theorem u_enter {n : Nat} {ds : List D} : enter n ds = ds.map .va ++ List.replicate (n - ds.length) .no := rfl
@[simp] theorem u_look {ρ : Env} {i : Nat} : look ρ i = ρ[i]?.bind Slot.get := rfl
@[simp] theorem u_owned {ρ : Env} {i : Nat} : owned ρ i = (match ρ[i]? with
  | some (.ow _) => true
  | _ => false) := rfl
@[simp] theorem u_ownL {ρ : Env} {i : Nat} : ownL ρ i = (match ρ[i]? with
  | some (.ow (.list _)) => true
  | _ => false) := rfl
@[simp] theorem u_clear {ρ : Env} {is : List Nat} : clear ρ is = is.all fun i => !owned ρ i := rfl
@[simp] theorem u_wipe_n {ρ : Env} : wipeE ρ [] = ρ := rfl
@[simp] theorem u_wipe_c {ρ : Env} {i : Nat} {is : List Nat} : wipeE ρ (i :: is) = (wipeE ρ is).set i .no := rfl
@[simp] theorem u_frz_n {ρ : Env} : frz ρ [] = ρ := rfl
@[simp] theorem u_frz_c {ρ : Env} {i : Nat} {is : List Nat} : frz ρ (i :: is) = frz (match ρ[i]? with
  | some (.ow d) => ρ.set i (.va d)
  | _ => ρ) is := rfl
@[simp] theorem u_keepE {ρ : Env} {e : E} {d : D} : keepE ρ e d = if scalar d then ρ else frz ρ (esc e) := rfl
@[simp] theorem u_keepS {ρ : Env} {e : E} {d : D} : keepS ρ e d = if solid d then ρ else frz ρ (esc e) := rfl
@[simp] theorem u_store {ρ : Env} {i : Nat} {e : E} {d : D} : store ρ i e d = if i < ρ.length then some ((keepE ρ e d).set i (if fresh e && isL d then .ow d else .va d)) else none := rfl
@[simp] theorem u_stores_n {ρ : Env} : stores ρ [] .nil [] = some ρ := rfl
@[simp] theorem u_stores_c {ρ : Env} {i : Nat} {is : List Nat} {e : E} {es : Es} {d : D} {ds : List D} : stores ρ (i :: is) (.cons e es) (d :: ds) = if i < ρ.length then stores (ρ.set i (if fresh e && isL d then .ow d else .va d)) is es ds else none := rfl
@[simp] theorem u_ca {F : Tab} {f : Str} {ds : List D} {δ : DS} : caR F f ds δ = (match F f with
  | some (.pu g) => R.ofO δ (g ds)
  | _ => .bad) := rfl
@[simp] theorem u_runP {F : Tab} {m n : Nat} {b : S} {ds : List D} : runP F m n b ds = if ds.length = m then outP (exec F b (enter n ds) none) else .bad := rfl
@[simp] theorem u_scalar_none  : scalar .none = true := rfl
@[simp] theorem u_solid_none : solid .none = true := rfl
@[simp] theorem u_flat_none  : flat .none = true := rfl
@[simp] theorem u_isL_none  : isL .none = false := rfl
@[simp] theorem u_scalar_bool {b : Bool} : scalar (.bool b) = true := rfl
@[simp] theorem u_solid_bool {b : Bool} : solid (.bool b) = true := rfl
@[simp] theorem u_flat_bool {b : Bool} : flat (.bool b) = true := rfl
@[simp] theorem u_isL_bool {b : Bool} : isL (.bool b) = false := rfl
@[simp] theorem u_scalar_int {i : Int} : scalar (.int i) = true := rfl
@[simp] theorem u_solid_int {i : Int} : solid (.int i) = true := rfl
@[simp] theorem u_flat_int {i : Int} : flat (.int i) = true := rfl
@[simp] theorem u_isL_int {i : Int} : isL (.int i) = false := rfl
@[simp] theorem u_scalar_str {x : Str} : scalar (.str x) = true := rfl
@[simp] theorem u_solid_str {x : Str} : solid (.str x) = true := rfl
@[simp] theorem u_flat_str {x : Str} : flat (.str x) = true := rfl
@[simp] theorem u_isL_str {x : Str} : isL (.str x) = false := rfl
@[simp] theorem u_scalar_list {xs : List D} : scalar (.list xs) = false := rfl
@[simp] theorem u_solid_list {xs : List D} : solid (.list xs) = false := rfl
@[simp] theorem u_solid_dict {xs : List (D × D)} : solid (.dict xs) = false := rfl
@[simp] theorem u_flat_list {xs : List D} : flat (.list xs) = false := rfl
@[simp] theorem u_isL_list {xs : List D} : isL (.list xs) = true := rfl
@[simp] theorem u_scalar_tuple {xs : List D} : scalar (.tuple xs) = false := rfl
@[simp] theorem u_flat_tuple {xs : List D} : flat (.tuple xs) = false := rfl
@[simp] theorem u_isL_tuple {xs : List D} : isL (.tuple xs) = false := rfl
/-! ### ticked -/
def tickP (t : List Nat) (s : List Int) : List Nat := (lvs t).filter fun b => s.getD b 0 == 1
theorem T_ticked_1 : T_ticked "leaves_of" = some (.pu M_leaves_of) := rfl
end Tk
set_option linter.all false
set_option Elab.async false
set_option maxRecDepth 100000
set_option maxHeartbeats 1000000
namespace Tk
open PySem

theorem e_ticked {t : List Nat} {s : List Int} (ht : t ∈ trees) (hs : s.length = t.length) : M_ticked [treeD t, .tuple (iL s)] = .ok (.tuple (nL (tickP t s))) := by
  simp [M_ticked, A_ticked, T_ticked_1, e_leaves ht]
  rw [nL, compL_ok (h := nI) (fun b => s.getD b 0 == 1) nI]
  · simp [tickP, nL]
  · intro b hb
    refine ⟨_, rfl, ?_, ?_⟩
    · simp [nI, atI_nat (show b < s.length by rw [hs]; exact lvs_lt hb)]
    · simp
end Tk
set_option linter.all false
set_option Elab.async false
set_option maxRecDepth 100000
set_option maxHeartbeats 1000000
namespace Tk
open PySem
structure Wy where
  dn : Str
  hf : Str
  up : Str
  al : Int
  mu : Int
  mo : Int
def Wy.ok (w : Wy) : Prop := (w.dn = "all" ∨ w.dn = "own") ∧ (w.hf = "tick" ∨ w.hf = "clear") ∧ (w.up = "half" ∨ w.up = "any" ∨ w.up = "every" ∨ w.up = "none") ∧ (w.al = 0 ∨ w.al = 1) ∧ (w.mu = 0 ∨ w.mu = 1) ∧ (w.mo = 0 ∨ w.mo = 2)
def wayD (w : Wy) : D := .tuple [.str w.dn, .str w.hf, .str w.up, .int w.al, .int w.mu, .int w.mo]
@[simp] theorem w_0 {w : Wy} : ixD (wayD w) (.int 0) = some (.str w.dn) := rfl
@[simp] theorem w_1 {w : Wy} : ixD (wayD w) (.int 1) = some (.str w.hf) := rfl
@[simp] theorem w_2 {w : Wy} : ixD (wayD w) (.int 2) = some (.str w.up) := rfl
@[simp] theorem w_3 {w : Wy} : ixD (wayD w) (.int 3) = some (.int w.al) := rfl
@[simp] theorem w_4 {w : Wy} : ixD (wayD w) (.int 4) = some (.int w.mu) := rfl
@[simp] theorem w_5 {w : Wy} : ixD (wayD w) (.int 5) = some (.int w.mo) := rfl
@[simp] theorem t_len {t : List Nat} : buD .len [treeD t] = some (.int t.length) := by simp [treeD, buD]
@[simp] theorem t_sc {t : List Nat} : scalar (treeD t) = false := rfl
@[simp] theorem w_sc {w : Wy} : scalar (wayD w) = false := rfl
theorem sh_word {x : Str} (h : x = "all" ∨ x = "own" ∨ x = "tick" ∨ x = "clear" ∨ x = "half" ∨ x = "any" ∨ x = "every" ∨ x = "none" ∨ x = "click" ∨ x = "turn") : SeqAt.shaped (.str x) = true := by
  rcases h with h | h | h | h | h | h | h | h | h | h <;> subst h <;> decide +kernel
@[simp] theorem sh_all : SeqAt.shaped (.str "all") = true := sh_word (by simp)
@[simp] theorem sh_own : SeqAt.shaped (.str "own") = true := sh_word (by simp)
@[simp] theorem sh_tick : SeqAt.shaped (.str "tick") = true := sh_word (by simp)
@[simp] theorem sh_clear : SeqAt.shaped (.str "clear") = true := sh_word (by simp)
@[simp] theorem sh_half : SeqAt.shaped (.str "half") = true := sh_word (by simp)
@[simp] theorem sh_any : SeqAt.shaped (.str "any") = true := sh_word (by simp)
@[simp] theorem sh_every : SeqAt.shaped (.str "every") = true := sh_word (by simp)
@[simp] theorem sh_none : SeqAt.shaped (.str "none") = true := sh_word (by simp)
@[simp] theorem sh_click : SeqAt.shaped (.str "click") = true := sh_word (by simp)
@[simp] theorem sh_turn : SeqAt.shaped (.str "turn") = true := sh_word (by simp)
theorem Wy.ok.sdn {w : Wy} (h : w.ok) : SeqAt.shaped (.str w.dn) = true := sh_word (by rcases h.1 with h | h <;> simp [h])
theorem Wy.ok.shf {w : Wy} (h : w.ok) : SeqAt.shaped (.str w.hf) = true := sh_word (by rcases h.2.1 with h | h <;> simp [h])
theorem Wy.ok.sup {w : Wy} (h : w.ok) : SeqAt.shaped (.str w.up) = true := sh_word (by rcases h.2.2.1 with h | h | h | h <;> simp [h])
theorem asBools_map {α : Type} (q : α → Bool) : ∀ (l : List α), asBools (l.map fun v => .bool (q v)) = some (l.map q)
  | [] => rfl
  | x :: l => by simp [asBools, asBools_map q l]
/-- what the boxes below tell -/
def toldP (c : Str) (vs : List Int) : Int := if c == "any" then (if vs.any (fun v => !(v == 0)) then 1 else 0) else if vs.all (fun v => v == 1) then 1 else if c == "every" || vs.all (fun v => v == 0) then 0 else 2
theorem comp_all {vs : List Int} {ρ : Env} {δ : DS} {i : Nat} {c e : E} {F : Tab} (g : Int → D) (hi : i < ρ.length) (hc : ∀ v ∈ vs, evB F c (ρ.set i (.va (.int v))) δ = .ok true δ) (he : ∀ v ∈ vs, ev F e (ρ.set i (.va (.int v))) δ = .ok (g v) δ) : compL (.n i) (evB F c) (ev F e) ρ (iL vs) δ = .ok (vs.map g) δ := by
  rw [iL, compL_ok (h := PyData.int) (fun _ => true) g]
  · rw [List.filter_eq_self.mpr (fun _ _ => rfl)]
  · intro v hv
    exact ⟨_, by simp [bindT, hi], hc v hv, fun _ => he v hv⟩
theorem comp_alln {vs : List Nat} {ρ : Env} {δ : DS} {i : Nat} {c e : E} {F : Tab} (g : Nat → D) (hi : i < ρ.length) (hc : ∀ v ∈ vs, evB F c (ρ.set i (.va (.int v))) δ = .ok true δ) (he : ∀ v ∈ vs, ev F e (ρ.set i (.va (.int v))) δ = .ok (g v) δ) : compL (.n i) (evB F c) (ev F e) ρ (nL vs) δ = .ok (vs.map g) δ := by
  rw [nL, compL_ok (h := nI) (fun _ => true) g]
  · rw [List.filter_eq_self.mpr (fun _ _ => rfl)]
  · intro v hv
    exact ⟨_, by simp [bindT, hi, nI], hc v hv, fun _ => he v hv⟩
theorem e_told_by {w : Wy} {vs : List Int} (hw : SeqAt.shaped (.str w.up) = true) : M_told_by [wayD w, .list (iL vs)] = .ok (.int (toldP w.up vs)) := by
  have c1 : compL (.n 2) (evB T_told_by (.k (.bool true))) (ev T_told_by (.cm .ne (.v 2) (.k (.int 0)))) [.va (wayD w), .va (.list (iL vs)), .no] (iL vs) none = .ok (vs.map fun v => .bool (!(v == 0))) none := comp_all _ (by simp) (by simp) (by simp)
  have c2 : compL (.n 2) (evB T_told_by (.k (.bool true))) (ev T_told_by (.cm .eq (.v 2) (.k (.int 1)))) [.va (wayD w), .va (.list (iL vs)), .no] (iL vs) none = .ok (vs.map fun v => .bool (v == 1)) none := comp_all _ (by simp) (by simp) (by simp)
  have c3 : compL (.n 2) (evB T_told_by (.k (.bool true))) (ev T_told_by (.cm .eq (.v 2) (.k (.int 0)))) [.va (wayD w), .va (.list (iL vs)), .no] (iL vs) none = .ok (vs.map fun v => .bool (v == 0)) none := comp_all _ (by simp) (by simp) (by simp)
  cases h1 : (w.up == "any") <;> cases h2 : (w.up == "every") <;> cases h3 : vs.any (fun v => !(v == 0)) <;> cases h4 : vs.all (fun v => v == 1) <;> cases h5 : vs.all (fun v => v == 0) <;>
    simp [M_told_by, A_told_by, c1, c2, c3, hw, h1, h2, h3, h4, h5, toldP, asBools_map, List.any_map, List.all_map, Function.comp_def]
end Tk
set_option linter.all false
set_option Elab.async false
set_option maxRecDepth 100000
set_option maxHeartbeats 1000000
namespace Tk
open PySem
theorem ixN_nat {n b : Nat} (h : b < n) : L2.ixN n (b : Int) = some b := by
  unfold L2.ixN
  rw [if_pos (by omega), if_pos (by omega)]
  simp
theorem iL_set {vs : List Int} {i : Nat} {v : Int} : (iL vs).set i (.int v) = iL (vs.set i v) := by simp [iL, List.map_set]
theorem iL_map {α : Type} {l : List α} {g : α → Int} : (l.map fun x => PyData.int (g x)) = iL (l.map g) := by simp [iL, Function.comp_def]
theorem runM_ok {F : Tab} {m n j : Nat} {b : S} {ds xs : List D} {ρ : Env} {δ : DS} {d : D} (hl : ds.length = m) (ha : (asg b).contains j = false) (hj : ds[j]? = some (.list xs)) (he : exec F b ((enter n ds).set j (.ow (.list xs))) none = .ok (.nx ρ) δ) (hr : ρ[j]? = some (.ow d)) : runM F m n b j ds = .ok d := by
  simp only [runM, hl, ha, hj, he, outM, hr]
  simp
theorem runP_ok {F : Tab} {m n : Nat} {b : S} {ds : List D} {δ : DS} {d : D} (hl : ds.length = m) (he : exec F b (enter n ds) none = .ok (.rt d) δ) : runP F m n b ds = .ok d := by
  simp only [runP, hl, he, outP]
  simp
/-- the same value at each of these places -/
def putAll (vs : List Int) (is : List Nat) (v : Int) : List Int := is.foldl (fun a i => a.set i v) vs
theorem T_spread_1 : T_spread_value "below" = some (.pu M_below) := rfl
theorem nL_cons {b : Nat} {l : List Nat} : PyData.int (b : Int) :: nL l = nL (b :: l) := rfl
theorem nL_one {b : Nat} : [PyData.int (b : Int)] = nL [b] := rfl
theorem tree_small {t : List Nat} (ht : t ∈ trees) : t.length ≤ 5 := by
  have h : trees.all (fun t => decide (t.length ≤ 5)) = true := by decide +kernel
  exact of_decide_eq_true (List.all_eq_true.mp h t ht)
theorem filter_range_len {n : Nat} {p : Nat → Bool} : ((List.range n).filter p).length ≤ n := by
  have := List.length_filter_le p (List.range n)
  simpa using this
/-- what is spread -/
def downP (w : Wy) (t : List Nat) (b : Nat) : List Nat := b :: if w.dn == "all" then bel t b else []
theorem e_spread {w : Wy} {t : List Nat} {vs : List Int} {b : Nat} {v : Int} (hw : w.ok) (ht : t ∈ trees) (hb : b < t.length) (hs : vs.length = t.length) : M_spread_value [wayD w, treeD t, .list (iL vs), .int b, .int v] = .ok (.list (iL (putAll vs (downP w t b) v))) ∧ (putAll vs (downP w t b) v).length = t.length := by
  have key := loopF_ok (h := nI) (tg := .n 5) (b := exec T_spread_value (.sq (.sti 2 (.v 5) (.v 4)) .sk)) (δ := none) (fun (vs : List Int) (j : Slot) => [.va (wayD w), .va (treeD t), .ow (.list (iL vs)), .va (.int b), .va (.int v), j]) (fun vs x => vs.set x v) (fun vs => vs.length = t.length) (downP w t b) vs .no hs (fun s j x hx hs => by
    have hx : x < t.length := by
      simp only [downP, List.mem_cons] at hx
      rcases hx with rfl | hx
      · exact hb
      · split at hx
        · exact bel_lt hx
        · simp at hx
    refine ⟨by simpa using hs, _, .va (.int x), rfl, ?_⟩
    simp [nI, stiR, ixN_nat (show x < s.length by omega), iL_set])
  obtain ⟨h1, j, h2⟩ := key
  refine ⟨runM_ok (xs := iL vs) (j := 2) (δ := none) rfl (by decide) rfl (ρ := [.va (wayD w), .va (treeD t), .ow (.list (iL (putAll vs (downP w t b) v))), .va (.int b), .va (.int v), j]) ?_ rfl, h1⟩
  have hz : (bel t b).length ≤ 5 := Nat.le_trans filter_range_len (tree_small ht)
  have hz2 : 1 + (bel t b).length ≤ big := by unfold big; omega
  cases h : w.dn == "all" with
  | true =>
    simp only [downP, h, if_true, List.map_cons] at h2
    simp [A_spread_value, hw.sdn, h, T_spread_1, e_below ht hb, hz2, downP, putAll]
    simp [nI] at h2
    simp [nL, h2]
  | false =>
    simp only [downP, h] at h2
    simp [A_spread_value, hw.sdn, h, downP, putAll, big]
    simp [nI] at h2
    simp [h2]
end Tk
set_option linter.all false
set_option Elab.async false
set_option maxRecDepth 100000
set_option maxHeartbeats 1000000
namespace Tk
open PySem
/-! ### shapes of the trees -/
def chainB (t : List Nat) : List Nat → Bool
  | [] => true
  | h :: r => decide (h < t.length) && decide (abv t h = r) && chainB t r
def shapeB (t : List Nat) (b : Nat) : Bool := chainB t (abv t b) && (abv t b).all (fun h => !(lvs t).contains h) && (sis t b).all (fun k => decide (k < t.length))
    && (List.range t.length).all fun k => decide ((b :: bel t b).contains k = (k == b || (abv t k).contains b)) && decide ((sis t b).any (fun s => !(s == b) && (s :: bel t s).contains k) = (k :: abv t k).any fun h => decide ((abv t h).head? = (abv t b).head?) && !(h == b)) && !((b :: bel t b).contains k && (sis t b).any (fun s => !(s == b) && (s :: bel t s).contains k))
theorem shapesB : trees.all (fun t => (List.range t.length).all (shapeB t)) = true := by decide +kernel
theorem shape {t : List Nat} {b : Nat} (ht : t ∈ trees) (hb : b < t.length) : shapeB t b = true := List.all_eq_true.mp (List.all_eq_true.mp shapesB t ht) b (List.mem_range.mpr hb)
theorem chain_of {t : List Nat} {b : Nat} (ht : t ∈ trees) (hb : b < t.length) : chainB t (abv t b) = true := by
  have h := shape ht hb
  simp only [shapeB, Bool.and_eq_true] at h
  exact h.1.1.1
theorem sis_lt {t : List Nat} {b k : Nat} (ht : t ∈ trees) (hb : b < t.length) (hk : k ∈ sis t b) : k < t.length := by
  have h := shape ht hb
  simp only [shapeB, Bool.and_eq_true, List.all_eq_true] at h
  exact of_decide_eq_true (h.1.2 k hk)
theorem chain_len {t : List Nat} {b : Nat} (ht : t ∈ trees) (hb : b < t.length) : (abv t b).length ≤ 5 := by
  have h : trees.all (fun t => (List.range t.length).all fun b => decide ((abv t b).length ≤ 5)) = true := by decide +kernel
  exact of_decide_eq_true (List.all_eq_true.mp (List.all_eq_true.mp h t ht) b (List.mem_range.mpr hb))
/-! ### lifted -/
def tellP (c : Str) (t : List Nat) (a : List Int) (h : Nat) : List Int := a.set h (toldP c ((ch t h).map fun k => a.getD k 0))
def liftP (c : Str) (t : List Nat) (l : List Nat) (vs : List Int) : List Int := l.foldl (tellP c t) vs
theorem T_lifted_1 : T_lifted "parent_of" = some (.pu M_parent_of) := rfl
theorem T_lifted_2 : T_lifted "told_by" = some (.pu M_told_by) := rfl
theorem T_lifted_3 : T_lifted "children_of" = some (.pu M_children_of) := rfl
theorem loopW_s {c : Env → DS → R Bool} {b : Env → DS → R Fl} {n : Nat} {ρ : Env} {δ : DS} : loopW c b (n + 1) ρ δ = (c ρ δ).bind fun t δ => if t then (b ρ δ).bind fun f δ => flR f (fun ρ' => loopW c b n ρ' δ) δ else .ok (.nx ρ) δ := rfl
theorem lift_loop {w : Wy} {t : List Nat} {b : Nat} (hw : w.ok) (hn : (w.up == "none") = false) (ht : t ∈ trees) : ∀ (l : List Nat) (vs : List Int) (n : Nat), chainB t l = true → vs.length = t.length → l.length < n →
    (liftP w.up t l vs).length = t.length ∧ loopW (evB T_lifted (.an (.cm .ne (.v 4) (.neg (.k (.int 1)))) (.cm .ne (.ix (.v 0) (.k (.int 2))) (.k (.str "none"))))) (exec T_lifted (.sq (.sti 2 (.v 4) (.ca "told_by" (.cons (.v 0) (.cons (.co (.ix (.v 2) (.v 5)) (.n 5) (.sq (.ca "children_of" (.cons (.v 1) (.cons (.v 4) .nil)))) (.k (.bool true))) .nil))))
  (.sq (.set 4 (.ca "parent_of" (.cons (.v 1) (.cons (.v 4) .nil)))) .sk))) n [.va (wayD w), .va (treeD t), .ow (.list (iL vs)), .va (.int b), .va (.int (parI l)), .no] none = .ok (.nx [.va (wayD w), .va (treeD t), .ow (.list (iL (liftP w.up t l vs))), .va (.int b), .va (.int (-1)), .no]) none
  | [], vs, n, _, hs, hl => by
    obtain ⟨m, rfl⟩ : ∃ m, n = m + 1 := ⟨n - 1, by simp at hl; omega⟩
    refine ⟨hs, ?_⟩
    simp [loopW_s, parI, hw.sup, liftP]
  | h :: r, vs, n, hc, hs, hl => by
    obtain ⟨m, rfl⟩ : ∃ m, n = m + 1 := ⟨n - 1, by simp at hl; omega⟩
    simp only [chainB, Bool.and_eq_true, decide_eq_true_eq] at hc
    obtain ⟨⟨hh, he⟩, hr⟩ := hc
    have ih := lift_loop (b := b) hw hn ht r (tellP w.up t vs h) m hr (by simp [tellP, hs]) (by simp at hl; omega)
    refine ⟨ih.1, ?_⟩
    have c1 : compL (.n 5) (evB T_lifted (.k (.bool true))) (ev T_lifted (.ix (.v 2) (.v 5))) [.va (wayD w), .va (treeD t), .ow (.list (iL vs)), .va (.int b), .va (.int h), .no] (nL (ch t h)) none = .ok (iL ((ch t h).map fun k => vs.getD k 0)) none := by
      rw [comp_alln (fun k => .int (vs.getD k 0)) (by simp) (by simp) (fun k hk => by simp [atI_nat (show k < vs.length by rw [hs]; exact ch_lt hk)])]
      simp [iL]
    have nz : ((h : Int) == -1) = false := by simp
    rw [loopW_s]
    simp [parI, hw.sup, hn, nz, T_lifted_1, T_lifted_2, T_lifted_3, e_children ht hh, c1, e_told_by hw.sup, e_parent ht hh, he, stiR, ixN_nat (show h < vs.length by omega), iL_set]
    exact ih.2
theorem e_lifted {w : Wy} {t : List Nat} {vs : List Int} {b : Nat} (hw : w.ok) (ht : t ∈ trees) (hb : b < t.length) (hs : vs.length = t.length) : M_lifted [wayD w, treeD t, .list (iL vs), .int b] = .ok (.list (iL (if w.up == "none" then vs else liftP w.up t (abv t b) vs))) ∧ (if w.up == "none" then vs else liftP w.up t (abv t b) vs).length = t.length := by
  cases hn : w.up == "none" with
  | true =>
    refine ⟨runM_ok (xs := iL vs) (j := 2) (δ := none) rfl (by decide) rfl (ρ := [.va (wayD w), .va (treeD t), .ow (.list (iL vs)), .va (.int b), .va (.int (parI (abv t b))), .no]) ?_ rfl, hs⟩
    simp [A_lifted, T_lifted_1, e_parent ht hb, loopW_s (n := 99999), hw.sup, hn]
    cases (parI (abv t b) == -1) <;> simp [r_an, hn, hw.sup]
  | false =>
    obtain ⟨h1, h2⟩ := lift_loop (b := b) hw hn ht (abv t b) vs 100000 (chain_of ht hb) hs (Nat.lt_of_le_of_lt (chain_len ht hb) (by decide))
    refine ⟨runM_ok (xs := iL vs) (j := 2) (δ := none) rfl (by decide) rfl (ρ := [.va (wayD w), .va (treeD t), .ow (.list (iL (liftP w.up t (abv t b) vs))), .va (.int b), .va (.int (-1)), .no]) ?_ rfl, h1⟩
    simp [A_lifted, T_lifted_1, e_parent ht hb]
    rw [h2]
    simp
end Tk
set_option linter.all false
set_option Elab.async false
set_option maxRecDepth 100000
set_option maxHeartbeats 1000000
namespace Tk
open PySem
/-! ### clicked -/
theorem sx_mc {F : Tab} {ρ : Env} {δ : DS} {f : Str} {es : Es} {j i : Nat} {g : List D → O D} {ys : List D} {ds xs : List D} (hF : F f = some (.mu j g)) (hn : nameOf es j = some i) (ho : ρ[i]? = some (.ow (.list ys))) (hc : clear ρ (escs (dropAt es j)) = true) (he : evs F es ρ δ = .ok ds δ) (hg : g ds = .ok (.list xs)) {ρ' : Env} (hr : ρ.set i (.ow (.list xs)) = ρ') : exec F (.mc f es) ρ δ = .ok (.nx ρ') δ := by
  simp only [exec, hF, hn, ho, hc, he, hg, R.bind_ok, if_true, hr]
def valP (w : Wy) (x : Int) : Int := if x == 0 || (x == 2 && w.hf == "tick") then 1 else 0
/-- the boxes beside b and all below them at 0 -/
def sistP (t : List Nat) (b : Nat) (vs : List Int) : List Int := (sis t b).foldl (fun a s => if s == b then a else putAll a (s :: bel t s) 0) vs
def clickP (w : Wy) (t : List Nat) (s : List Int) (b : Nat) : List Int :=
  let v := valP w (s.getD b 0)
  let a := putAll s (downP w t b) v
  let a := if w.al == 1 && v == 1 then sistP t b a else a
  if w.up == "none" then a else liftP w.up t (abv t b) a
theorem T_clicked_1 : T_clicked "spread_value" = some (.mu 2 M_spread_value) := rfl
theorem T_clicked_2 : T_clicked "lifted" = some (.mu 2 M_lifted) := rfl
theorem T_clicked_3 : T_clicked "children_of" = some (.pu M_children_of) := rfl
theorem T_clicked_4 : T_clicked "parent_of" = some (.pu M_parent_of) := rfl
theorem T_clicked_5 : T_clicked "below" = some (.pu M_below) := rfl
theorem putAll_len {vs : List Int} {is : List Nat} {v : Int} : (putAll vs is v).length = vs.length := by
  unfold putAll
  induction is generalizing vs with
  | nil => rfl
  | cons i is ih => rw [List.foldl_cons, ih]; simp
theorem sis_loop {w : Wy} {t : List Nat} {s : List Int} {b : Nat} {v : Int} (ht : t ∈ trees) (hb : b < t.length) (vs : List Int) (hs : vs.length = t.length) :
    (sistP t b vs).length = t.length ∧ ∃ j1 j2, loopF (.n 6) (exec T_clicked (.sq (.ifs (.cm .ne (.v 6) (.v 3)) (.sq (.fors (.n 7) (.sq (.bin .add (.ls (.cons (.v 6) .nil)) (.ca "below" (.cons (.v 1) (.cons (.v 6) .nil))))) (.sq (.sti 4 (.v 7) (.k (.int 0)))
  .sk))
  .sk) .sk)
  .sk)) (nL (sis t b)) [.va (wayD w), .va (treeD t), .va (.tuple (iL s)), .va (.int b), .ow (.list (iL vs)), .va (.int v), .no, .no] none = .ok (.nx [.va (wayD w), .va (treeD t), .va (.tuple (iL s)), .va (.int b), .ow (.list (iL (sistP t b vs))), .va (.int v), j1, j2]) none := by
  have key := loopF_ok (h := nI) (tg := .n 6) (b := exec T_clicked (.sq (.ifs (.cm .ne (.v 6) (.v 3)) (.sq (.fors (.n 7) (.sq (.bin .add (.ls (.cons (.v 6) .nil)) (.ca "below" (.cons (.v 1) (.cons (.v 6) .nil))))) (.sq (.sti 4 (.v 7) (.k (.int 0)))
  .sk))
  .sk) .sk)
  .sk)) (δ := none) (fun (vs : List Int) (j : Slot × Slot) => [.va (wayD w), .va (treeD t), .va (.tuple (iL s)), .va (.int b), .ow (.list (iL vs)), .va (.int v), j.1, j.2]) (fun a s => if s == b then a else putAll a (s :: bel t s) 0) (fun vs => vs.length = t.length) (sis t b) vs (.no, .no) hs (fun a j x hx ha => by
    have hx : x < t.length := sis_lt ht hb hx
    refine ⟨?_, ?_⟩
    · split
      · exact ha
      · rw [putAll_len]; exact ha
    have inner := loopF_ok (h := nI) (tg := .n 7) (b := exec T_clicked (.sq (.sti 4 (.v 7) (.k (.int 0))) .sk)) (δ := none) (fun (vs : List Int) (j : Slot) => [.va (wayD w), .va (treeD t), .va (.tuple (iL s)), .va (.int b), .ow (.list (iL vs)), .va (.int v), .va (.int x), j]) (fun vs x => vs.set x 0) (fun vs => vs.length = t.length) (x :: bel t x) a j.2 ha (fun a j y hy ha => by
      have hy : y < t.length := by
        simp only [List.mem_cons] at hy
        rcases hy with rfl | hy
        · exact hx
        · exact bel_lt hy
      refine ⟨by simpa using ha, _, .va (.int y), rfl, ?_⟩
      simp [nI, stiR, ixN_nat (show y < a.length by omega), iL_set])
    obtain ⟨_, j', h2⟩ := inner
    have hz : (bel t x).length ≤ 5 := Nat.le_trans filter_range_len (tree_small ht)
    have hz2 : 1 + (bel t x).length ≤ big := by unfold big; omega
    cases hxb : x == b with
    | true =>
      have : x = b := by simpa using hxb
      subst this
      refine ⟨_, (.va (.int x), j.2), rfl, ?_⟩
      simp [nI]
    | false =>
      have hne : ((x : Int) == (b : Int)) = false := by simp at hxb ⊢; omega
      refine ⟨_, (.va (.int x), j'), rfl, ?_⟩
      simp [nI] at h2
      simp [nI, hne, T_clicked_5, e_below ht hx, hz2]
      simp [nL, h2, putAll])
  obtain ⟨h1, ⟨j1, j2⟩, h2⟩ := key
  exact ⟨h1, j1, j2, h2⟩
theorem e_clicked {w : Wy} {t : List Nat} {s : List Int} {b : Nat} (hw : w.ok) (ht : t ∈ trees) (hb : b < t.length) (hs : s.length = t.length) : M_clicked [wayD w, treeD t, .tuple (iL s), .int b] = .ok (.tuple (iL (clickP w t s b))) ∧ (clickP w t s b).length = t.length := by
  have hat := atI_nat (show b < s.length by omega)
  obtain ⟨x, hx⟩ : ∃ x, x = s.getD b 0 := ⟨_, rfl⟩
  rw [← hx] at hat
  have hv : ev T_clicked (.ite (.or (.cm .eq (.ix (.v 2) (.v 3)) (.k (.int 0))) (.an (.cm .eq (.ix (.v 2) (.v 3)) (.k (.int 2))) (.cm .eq (.ix (.v 0) (.k (.int 1))) (.k (.str "tick"))))) (.k (.int 1)) (.k (.int 0))) [.va (wayD w), .va (treeD t), .va (.tuple (iL s)), .va (.int b), .ow (.list (iL s)), .no, .no, .no] none = .ok (.int (valP w x)) none := by
    cases h1 : x == 0 <;> cases h2 : x == 2 <;> cases h3 : w.hf == "tick" <;> simp [hat, hw.shf, valP, h1, h2, h3]
  obtain ⟨v, hve⟩ : ∃ v, v = valP w x := ⟨_, rfl⟩
  rw [← hve] at hv
  obtain ⟨p1, p2⟩ := e_spread (b := b) (v := v) hw ht hb hs
  have m1 : exec T_clicked (.mc "spread_value" (.cons (.v 0) (.cons (.v 1) (.cons (.v 4) (.cons (.v 3) (.cons (.v 5) .nil)))))) [.va (wayD w), .va (treeD t), .va (.tuple (iL s)), .va (.int b), .ow (.list (iL s)), .va (.int v), .no, .no] none = .ok (.nx [.va (wayD w), .va (treeD t), .va (.tuple (iL s)), .va (.int b), .ow (.list (iL (putAll s (downP w t b) v))), .va (.int v), .no, .no]) none :=
    sx_mc (i := 4) T_clicked_1 rfl rfl rfl rfl p1 rfl
  obtain ⟨a, ha⟩ : ∃ a, a = putAll s (downP w t b) v := ⟨_, rfl⟩
  rw [← ha] at m1 p2
  obtain ⟨q1, j1, j2, q2⟩ := sis_loop (w := w) (s := s) (v := v) ht hb a p2
  have hP : clickP w t s b = if w.up == "none" then (if w.al == 1 && v == 1 then sistP t b a else a) else liftP w.up t (abv t b) (if w.al == 1 && v == 1 then sistP t b a else a) := by
    simp only [clickP, ← hx, ← hve, ← ha]
  rw [hP]
  have last : ∀ (c : List Int) (j1 j2 : Slot), c.length = t.length → exec T_clicked (.mc "lifted" (.cons (.v 0) (.cons (.v 1) (.cons (.v 4) (.cons (.v 3) .nil))))) [.va (wayD w), .va (treeD t), .va (.tuple (iL s)), .va (.int b), .ow (.list (iL c)), .va (.int v), j1, j2] none = .ok (.nx [.va (wayD w), .va (treeD t), .va (.tuple (iL s)), .va (.int b), .ow (.list (iL (if w.up == "none" then c else liftP w.up t (abv t b) c))), .va (.int v), j1, j2]) none := fun c j1 j2 hc =>
    sx_mc (i := 4) T_clicked_2 rfl rfl rfl rfl (e_lifted hw ht hb hc).1 rfl
  cases h1 : w.al == 1 <;> cases h2 : v == 1
  case true.true =>
    refine ⟨runP_ok (δ := none) rfl ?_, (e_lifted hw ht hb q1).2⟩
    simp [A_clicked, -x_ite, hv, m1, h1, h2, T_clicked_3, T_clicked_4, e_parent ht hb, e_sis ht hb, q2, last _ _ _ q1]
  all_goals
    refine ⟨runP_ok (δ := none) rfl ?_, (e_lifted hw ht hb p2).2⟩
    simp [A_clicked, -x_ite, hv, m1, h1, h2, last _ _ _ p2]
end Tk
set_option linter.all false
set_option Elab.async false
set_option maxRecDepth 100000
set_option maxHeartbeats 1000000
namespace Tk
open PySem
theorem rangeD_nL : ∀ (n a : Nat), rangeD (a : Int) n = nL ((List.range n).map (a + ·))
  | 0, _ => rfl
  | n + 1, a => by
    rw [List.range_succ_eq_map, rangeD, show ((a : Int) + 1) = ((a + 1 : Nat) : Int) by omega, rangeD_nL n (a + 1)]
    simp [nL, nI, Function.comp_def]
    intro k _
    omega
theorem rangeD0 {n : Nat} : rangeD 0 n = nL (List.range n) := by
  have := rangeD_nL n 0
  simpa using this
theorem r_lrange {n : Nat} (h : n ≤ 100000) : buD .lrange [.int (n : Int)] = some (.list (nL (List.range n))) := by
  have : (0 : Int) ≤ n ∧ (n : Int) ≤ 100000 := by omega
  simp only [buD, if_pos this, Int.toNat_natCast, rangeD0]
theorem r_n1n {n : Nat} (h : n ≤ 100000) : n1 (.int (n : Int)) = some (nL (List.range n)) := by
  have : (n : Int) ≤ 100000 ∧ -100000 ≤ (n : Int) := by omega
  simp only [n1, if_pos this, Int.toNat_natCast, rangeD0]
@[simp] theorem nL_rev {l : List Nat} : (nL l).reverse = nL l.reverse := by simp [nL]
@[simp] theorem nL_any {l : List Nat} {b : Nat} : ((nL l).any fun z => PyData.eqv z (.int (b : Int))) = l.contains b := by
  induction l with
  | nil => rfl
  | cons x l ih =>
    simp only [nL, List.map_cons, List.any_cons, List.contains_cons] at ih ⊢
    rw [ih]
    congr 1
    simp only [nI, r_eqi]
    rw [Bool.eq_iff_iff]
    simp
    omega
theorem lays {α : Type} {f : α → D} (h : ∀ x, PyData.canLay0 (f x) = true ∧ PyData.depth (f x) ≤ 60) : ∀ (l : List α), PyData.canLayAll0 (l.map f) = true ∧ PyData.depthAll (l.map f) ≤ 60
  | [] => ⟨rfl, by simp [PyData.depthAll]⟩
  | x :: l => by
    obtain ⟨h1, h2⟩ := lays h l
    obtain ⟨h3, h4⟩ := h x
    simp only [List.map_cons, PyData.canLayAll0, PyData.depthAll, h1, h3]
    exact ⟨rfl, by omega⟩
theorem sh_listOf {α : Type} {f : α → D} (h : ∀ x, PyData.canLay0 (f x) = true ∧ PyData.depth (f x) ≤ 60) (l : List α) : SeqAt.shaped (.list (l.map f)) = true := by
  obtain ⟨h1, h2⟩ := lays h l
  simp [SeqAt.shaped, PyData.canLay0, PyData.depth, h1]
  omega
theorem sh_tupOf {α : Type} {f : α → D} (h : ∀ x, PyData.canLay0 (f x) = true ∧ PyData.depth (f x) ≤ 60) (l : List α) : SeqAt.shaped (.tuple (l.map f)) = true := by
  obtain ⟨h1, h2⟩ := lays h l
  simp [SeqAt.shaped, PyData.canLay0, PyData.depth, h1]
  omega
@[simp] theorem sh_nL {l : List Nat} : SeqAt.shaped (.list (nL l)) = true := sh_listOf (fun x => ⟨rfl, by simp [nI, PyData.depth]⟩) l
@[simp] theorem sh_iL {l : List Int} : SeqAt.shaped (.list (iL l)) = true := sh_listOf (fun x => ⟨rfl, by simp [PyData.depth]⟩) l
@[simp] theorem sh_nT {l : List Nat} : SeqAt.shaped (.tuple (nL l)) = true := sh_tupOf (fun x => ⟨rfl, by simp [nI, PyData.depth]⟩) l
@[simp] theorem sh_iT {l : List Int} : SeqAt.shaped (.tuple (iL l)) = true := sh_tupOf (fun x => ⟨rfl, by simp [PyData.depth]⟩) l
@[simp] theorem r_nin {d : D} {ds : List D} : cmD .nin d (.list ds) = if SeqAt.shaped d && SeqAt.shaped (.list ds) then some (!ds.any fun z => PyData.eqv z d) else none := rfl
@[simp] theorem r_isin {d : D} {ds : List D} : cmD .isin d (.list ds) = if SeqAt.shaped d && SeqAt.shaped (.list ds) then some (ds.any fun z => PyData.eqv z d) else none := rfl
def turnP (w : Wy) (t : List Nat) (s : List Int) : List Int :=
  let a := (lvs t).foldl (fun a b => a.set b (1 - a.getD b 0)) s
  if w.up == "none" then a else (List.range t.length).reverse.foldl (fun a b => if (lvs t).contains b then a else tellP w.up t a b) a
theorem T_turned_1 : T_turned "leaves_of" = some (.pu M_leaves_of) := rfl
theorem T_turned_2 : T_turned "told_by" = some (.pu M_told_by) := rfl
theorem T_turned_3 : T_turned "children_of" = some (.pu M_children_of) := rfl
theorem e_turned {w : Wy} {t : List Nat} {s : List Int} (hw : w.ok) (ht : t ∈ trees) (hs : s.length = t.length) : M_turned [wayD w, treeD t, .tuple (iL s)] = .ok (.tuple (iL (turnP w t s))) ∧ (turnP w t s).length = t.length := by
  have k1 := loopF_ok (h := nI) (tg := .n 4) (b := exec T_turned (.sq (.sti 3 (.v 4) (.bin .sub (.k (.int 1)) (.ix (.v 3) (.v 4)))) .sk)) (δ := none) (fun (vs : List Int) (j : Slot) => [.va (wayD w), .va (treeD t), .va (.tuple (iL s)), .ow (.list (iL vs)), j, .no]) (fun a b => a.set b (1 - a.getD b 0)) (fun vs => vs.length = t.length) (lvs t) s .no hs (fun a j x hx ha => by
    have hx : x < t.length := lvs_lt hx
    refine ⟨by simpa using ha, _, .va (.int x), rfl, ?_⟩
    have h1 := atI_nat (show x < a.length by omega)
    obtain ⟨y, hy⟩ : ∃ y, y = a.getD x 0 := ⟨_, rfl⟩
    rw [← hy] at h1
    simp only [← hy]
    simp [nI, h1, stiR, ixN_nat (show x < a.length by omega), iL_set])
  obtain ⟨h1, j, h2⟩ := k1
  obtain ⟨a, ha⟩ : ∃ a, a = (lvs t).foldl (fun a b => a.set b (1 - a.getD b 0)) s := ⟨_, rfl⟩
  rw [← ha] at h1 h2
  have ht5 := tree_small ht
  cases hn : w.up == "none" with
  | true =>
    simp only [turnP, hn, if_true, ← ha]
    refine ⟨runP_ok (δ := none) rfl ?_, h1⟩
    simp [A_turned, T_turned_1, e_leaves ht, nL, h2, hw.sup, hn]
  | false =>
    have k2 := loopF_ok (h := nI) (tg := .n 4) (b := exec T_turned (.sq (.ifs (.cm .nin (.v 4) (.ca "leaves_of" (.cons (.v 1) .nil))) (.sq (.sti 3 (.v 4) (.ca "told_by" (.cons (.v 0) (.cons (.co (.ix (.v 3) (.v 5)) (.n 5) (.sq (.ca "children_of" (.cons (.v 1) (.cons (.v 4) .nil)))) (.k (.bool true))) .nil))))
  .sk) .sk)
  .sk)) (δ := none) (fun (vs : List Int) (j : Slot) => [.va (wayD w), .va (treeD t), .va (.tuple (iL s)), .ow (.list (iL vs)), j, .no]) (fun a b => if (lvs t).contains b then a else tellP w.up t a b) (fun vs => vs.length = t.length) (List.range t.length).reverse a j h1 (fun a j x hx ha => by
      have hx : x < t.length := by simpa using hx
      refine ⟨by split <;> simp [tellP, ha], _, .va (.int x), rfl, ?_⟩
      have c1 : compL (.n 5) (evB T_turned (.k (.bool true))) (ev T_turned (.ix (.v 3) (.v 5))) [.va (wayD w), .va (treeD t), .va (.tuple (iL s)), .ow (.list (iL a)), .va (.int x), .no] (nL (ch t x)) none = .ok (iL ((ch t x).map fun k => a.getD k 0)) none := by
        rw [comp_alln (fun k => .int (a.getD k 0)) (by simp) (by simp) (fun k hk => by simp [atI_nat (show k < a.length by rw [ha]; exact ch_lt hk)])]
        simp [iL]
      cases hl : (lvs t).contains x with
      | true => simp [-List.contains_eq_mem, nI, T_turned_1, e_leaves ht, hl]
      | false => simp [-List.contains_eq_mem, nI, T_turned_1, T_turned_2, T_turned_3, e_leaves ht, hl, e_children ht hx, c1, e_told_by hw.sup, stiR, ixN_nat (show x < a.length by omega), iL_set, tellP])
    obtain ⟨g1, j', g2⟩ := k2
    simp only [turnP, hn, ← ha]
    refine ⟨runP_ok (δ := none) rfl ?_, g1⟩
    change loopF _ _ (nL _) _ _ = _ at h2 g2
    simp [A_turned, T_turned_1, e_leaves ht, h2, hw.sup, hn, r_lrange (show t.length ≤ 100000 by omega), g2]
end Tk
set_option linter.all false
set_option Elab.async false
set_option maxRecDepth 100000
set_option maxHeartbeats 1000000
namespace Tk
open PySem
theorem j_or {F : Tab} {a b : E} {ρ : Env} {δ : DS} {x y : Bool} (ha : ev F a ρ δ = .ok (.bool x) δ) (hb : ev F b ρ δ = .ok (.bool y) δ) : ev F (.or a b) ρ δ = .ok (.bool (x || y)) δ := by
  rw [x_or, ha, R.bind_ok, r_or hb]
theorem j_an {F : Tab} {a b : E} {ρ : Env} {δ : DS} {x y : Bool} (ha : ev F a ρ δ = .ok (.bool x) δ) (hb : ev F b ρ δ = .ok (.bool y) δ) : ev F (.an a b) ρ δ = .ok (.bool (x && y)) δ := by
  rw [x_an, ha, R.bind_ok, r_an hb]
theorem seq_nx {F : Tab} {a b : S} {ρ ρ1 : Env} {δ δ1 : DS} (h : exec F a ρ δ = .ok (.nx ρ1) δ1) : exec F (.sq a b) ρ δ = exec F b ρ1 δ1 := by
  rw [sx_sq, h, R.bind_ok, r_flnx]
inductive Dd where
  | click (b : Nat) | all | none | turn
def deedD : Dd → D
  | .click b => .tuple [.str "click", .int b]
  | .all => .tuple [.str "all"]
  | .none => .tuple [.str "none"]
  | .turn => .tuple [.str "turn"]
def Dd.ok (t : List Nat) : Dd → Prop
  | .click b => b < t.length
  | _ => True
def afterP (w : Wy) (t : List Nat) (s : List Int) : Dd → List Int
  | .click b => clickP w t s b
  | .turn => turnP w t s
  | .all => List.replicate t.length 1
  | .none => List.replicate t.length 0
def keptP (w : Wy) (t : List Nat) (s a : List Int) : Bool := (w.mo == 2 && decide (2 < ((tickP t a).length : Int))) || (w.mu == 1 && (((tickP t a).length : Int) == 0 && !(tickP t s).isEmpty))
def stepP (w : Wy) (t : List Nat) (s : List Int) (d : Dd) : List Int := if keptP w t s (afterP w t s d) then s else afterP w t s d
theorem d_0 {d : Dd} : ixD (deedD d) (.int 0) = some (.str (match d with | .click _ => "click" | .all => "all" | .none => "none" | .turn => "turn")) := by cases d <;> rfl
theorem d_c1 {b : Nat} : ixD (deedD (.click b)) (.int 1) = some (.int b) := rfl
theorem d_sc {d : Dd} : scalar (deedD d) = false := by cases d <;> rfl
theorem T_step_1 : T_step "clicked" = some (.pu M_clicked) := rfl
theorem T_step_2 : T_step "ticked" = some (.pu M_ticked) := rfl
theorem T_step_3 : T_step "turned" = some (.pu M_turned) := rfl
theorem eqv_nT {l : List Nat} : PyData.eqv (.tuple (nL l)) (.tuple []) = l.isEmpty := by cases l <;> rfl
theorem eqv_nL {l : List Nat} : PyData.eqv (.list (nL l)) (.list []) = l.isEmpty := by cases l <;> rfl
theorem r_repi {n : Nat} {z : Int} (h : n ≤ 1000) : opD .mul (.list [.int z]) (.int (n : Int)) = some (.list (iL (List.replicate n z))) := by
  have : (n : Int) ≤ 1000 ∧ -1000 ≤ (n : Int) ∧ [PyData.int z].length ≤ 1000 := ⟨by omega, by omega, by simp⟩
  rw [r_rep, if_pos this]
  congr 2
  simp only [Int.toNat_natCast, iL, List.map_replicate]
  clear this h
  induction n with
  | zero => rfl
  | succ n ih => simp [List.replicate_succ, ih]
theorem step_tail {w : Wy} {t : List Nat} {s a : List Int} {d : D} (hw : w.ok) (ht : t ∈ trees) (hs : s.length = t.length) (ha : a.length = t.length) :
    exec T_step (.sq (.set 5 (.bu .len (.cons (.ca "ticked" (.cons (.v 1) (.cons (.v 4) .nil))) .nil)))
  (.sq (.ifs (.or (.an (.cm .eq (.ix (.v 0) (.k (.int 5))) (.k (.int 2))) (.cm .gt (.v 5) (.k (.int 2)))) (.an (.cm .eq (.ix (.v 0) (.k (.int 4))) (.k (.int 1))) (.an (.cm .eq (.v 5) (.k (.int 0))) (.cm .ne (.ca "ticked" (.cons (.v 1) (.cons (.v 2) .nil))) (.tu .nil))))) (.sq (.ret (.v 2))
  .sk) .sk)
  (.sq (.ret (.v 4))
  .sk))) [.va (wayD w), .va (treeD t), .va (.tuple (iL s)), .va d, .va (.tuple (iL a)), .no] none = .ok (.rt (.tuple (iL (if keptP w t s a then s else a)))) none := by
  have hc : ev T_step (.or (.an (.cm .eq (.ix (.v 0) (.k (.int 5))) (.k (.int 2))) (.cm .gt (.v 5) (.k (.int 2)))) (.an (.cm .eq (.ix (.v 0) (.k (.int 4))) (.k (.int 1))) (.an (.cm .eq (.v 5) (.k (.int 0))) (.cm .ne (.ca "ticked" (.cons (.v 1) (.cons (.v 2) .nil))) (.tu .nil))))) [.va (wayD w), .va (treeD t), .va (.tuple (iL s)), .va d, .va (.tuple (iL a)), .va (.int (tickP t a).length)] none = .ok (.bool (keptP w t s a)) none :=
    j_or (j_an (by simp) (by simp)) (j_an (by simp) (j_an (by simp) (by simp [T_step_2, e_ticked ht hs, eqv_nT, show SeqAt.shaped (.tuple []) = true from rfl])))
  cases hk : keptP w t s a <;> rw [hk] at hc <;> simp [-x_or, T_step_2, e_ticked ht ha, hc]
theorem e_step {w : Wy} {t : List Nat} {s : List Int} {d : Dd} (hw : w.ok) (ht : t ∈ trees) (hd : d.ok t) (hs : s.length = t.length) : M_step [wayD w, treeD t, .tuple (iL s), deedD d] = .ok (.tuple (iL (stepP w t s d))) ∧ (stepP w t s d).length = t.length := by
  have ha : (afterP w t s d).length = t.length := by
    cases d with
    | click b => exact (e_clicked hw ht hd hs).2
    | turn => exact (e_turned hw ht hs).2
    | all => simp [afterP]
    | none => simp [afterP]
  have tail := step_tail (d := deedD d) hw ht hs ha
  refine ⟨runP_ok (δ := none) rfl ((seq_nx ?_).trans tail), by unfold stepP; split <;> assumption⟩
  have ht5 := tree_small ht
  cases d with
  | click b => simp [d_0, d_c1, T_step_1, (e_clicked hw ht hd hs).1, afterP]
  | turn => simp [d_0, T_step_3, (e_turned hw ht hs).1, afterP, show ((Str.ofString "turn") == (Str.ofString "click")) = false from by decide]
  | all => simp [-r_rep, d_0, r_repi (show t.length ≤ 1000 by omega), afterP, show ((Str.ofString "all") == (Str.ofString "click")) = false from by decide, show ((Str.ofString "all") == (Str.ofString "turn")) = false from by decide]
  | none => simp [-r_rep, d_0, r_repi (show t.length ≤ 1000 by omega), afterP, show ((Str.ofString "none") == (Str.ofString "click")) = false from by decide, show ((Str.ofString "none") == (Str.ofString "turn")) = false from by decide, show ((Str.ofString "none") == (Str.ofString "all")) = false from by decide]
end Tk
set_option linter.all false
set_option Elab.async false
set_option maxRecDepth 100000
set_option maxHeartbeats 1000000
namespace Tk
open PySem
/-- a state: a tuple, or a list -/
def seqD (u : Bool) (s : List Int) : D := if u then .tuple (iL s) else .list (iL s)
theorem q_ix {u : Bool} {s : List Int} {b : Nat} (h : b < s.length) : ixD (seqD u s) (.int (b : Int)) = some (.int (s.getD b 0)) := by
  cases u <;> simp only [seqD] <;> exact atI_nat h
theorem T_lticked_1 : T_law_ticked "_law_leaves" = some (.pu M_law_leaves) := rfl
theorem e_lticked {u : Bool} {t : List Nat} {s : List Int} (ht : t ∈ trees) (hs : s.length = t.length) : M_law_ticked [treeD t, seqD u s] = .ok (.tuple (nL (tickP t s))) := by
  simp [M_law_ticked, A_law_ticked, T_lticked_1, e_lleaves ht]
  rw [nL, compL_ok (h := nI) (fun b => s.getD b 0 == 1) nI]
  · simp [tickP, nL]
  · intro b hb
    refine ⟨_, rfl, ?_, ?_⟩
    · simp [nI, q_ix (show b < s.length by rw [hs]; exact lvs_lt hb)]
    · simp
theorem eqvAll_iL : ∀ (a b : List Int), PyData.eqvAll (iL a) (iL b) = (a == b)
  | [], [] => rfl
  | x :: a, y :: b => by
    have := eqvAll_iL a b
    simp only [iL, List.map_cons, PyData.eqvAll, r_eqi] at this ⊢
    rw [this]
    rfl
  | [], _ :: _ => rfl
  | _ :: _, [] => rfl
theorem eqv_iL {a b : List Int} : PyData.eqv (.list (iL a)) (.list (iL b)) = (a == b) := eqvAll_iL a b
theorem eqv_iT {a b : List Int} : PyData.eqv (.tuple (iL a)) (.tuple (iL b)) = (a == b) := eqvAll_iL a b
theorem eq_rep {z : Int} : ∀ (a : List Int), (a == List.replicate a.length z) = a.all (fun v => v == z)
  | [] => rfl
  | x :: a => by
    have := eq_rep (z := z) a
    simp only [List.length_cons, List.replicate_succ, List.all_cons]
    rw [← this]
    rfl
theorem T_ltold_1 : T_law_told "_law_children" = some (.pu M_law_children) := rfl
theorem all0_any {a : List Int} : a.any (fun v => !(v == 0)) = !a.all (fun v => v == 0) := by
  induction a with
  | nil => rfl
  | cons x a ih => simp only [List.any_cons, List.all_cons, ih, Bool.not_and]
theorem e_ltold {u : Bool} {c : Str} {t : List Nat} {s : List Int} {b : Nat} (hc : c = "half" ∨ c = "any" ∨ c = "every") (ht : t ∈ trees) (hb : b < t.length) (hs : s.length = t.length) : M_law_told [.str c, treeD t, seqD u s, .int b] = .ok (.int (toldP c ((ch t b).map fun k => s.getD k 0))) := by
  have hsh : SeqAt.shaped (.str c) = true := sh_word (by rcases hc with h | h | h <;> simp [h])
  have hz : (ch t b).length ≤ 5 := Nat.le_trans filter_range_len (tree_small ht)
  obtain ⟨vs, hvs⟩ : ∃ vs, vs = (ch t b).map fun k => s.getD k 0 := ⟨_, rfl⟩
  have c1 : compL (.n 5) (evB T_law_told (.k (.bool true))) (ev T_law_told (.ix (.v 2) (.v 5))) [.va (.str c), .va (treeD t), .va (seqD u s), .va (.int b), .no, .no] (nL (ch t b)) none = .ok (iL vs) none := by
    rw [comp_alln (fun k => .int (s.getD k 0)) (by simp) (by simp) (fun k hk => by simp [q_ix (show k < s.length by rw [hs]; exact ch_lt hk)])]
    simp [iL, hvs]
  have hvl : vs.length ≤ 1000 := by rw [hvs, List.length_map]; omega
  rw [← hvs]
  refine runP_ok (δ := none) rfl ?_
  have h1 : (c == "any") = true → (c == "every") = false ∧ (c == "half") = false := by rcases hc with h | h | h <;> subst h <;> decide
  have h2 : (c == "any") = false → (c == "every") = !(c == "half") := by rcases hc with h | h | h <;> subst h <;> decide
  cases ha : c == "any" with
  | true =>
    cases h3 : vs.all (fun v => v == 0) <;> simp [-r_rep, A_law_told, T_ltold_1, e_lchildren ht hb, c1, hsh, ha, r_repi hvl, eqv_iL, eq_rep, h3, toldP, all0_any]
  | false =>
    have h2 := h2 ha
    cases h3 : vs.all (fun v => v == 1) <;> cases h4 : vs.all (fun v => v == 0) <;> cases h5 : c == "half" <;> rw [h5] at h2 <;>
      simp [-r_rep, A_law_told, T_ltold_1, e_lchildren ht hb, c1, hsh, ha, r_repi hvl, eqv_iL, eq_rep, h3, h4, h5, h2, toldP]
end Tk
set_option linter.all false
set_option Elab.async false
set_option maxRecDepth 100000
set_option maxHeartbeats 1000000
namespace Tk
open PySem
theorem chain_lt {t : List Nat} {h : Nat} : ∀ {l : List Nat}, chainB t l = true → h ∈ l → h < t.length
  | k :: r, hc, hm => by
    simp only [chainB, Bool.and_eq_true, decide_eq_true_eq] at hc
    simp only [List.mem_cons] at hm
    rcases hm with rfl | hm
    · exact hc.1.1
    · exact chain_lt hc.2 hm
theorem abv_lt {t : List Nat} {b h : Nat} (ht : t ∈ trees) (hb : b < t.length) (hm : h ∈ abv t b) : h < t.length := chain_lt (chain_of ht hb) hm
theorem Wy.ok.up3 {w : Wy} (h : w.ok) (hn : (w.up == "none") = false) : w.up = "half" ∨ w.up = "any" ∨ w.up = "every" := by
  rcases h.2.2.1 with h | h | h | h
  · exact .inl h
  · exact .inr (.inl h)
  · exact .inr (.inr h)
  · rw [h] at hn; exact absurd hn (by decide)
theorem cut1 {l : List Nat} : cut (nL l) none (some 1) = nL (l.take 1) := by
  cases l with
  | nil => rfl
  | cons x l => simp [-List.contains_eq_mem, cut, HT.sIx, nL]
theorem r_sl1 {l : List Nat} : slD (.list (nL l)) none (some 1) = some (.list (nL (l.take 1))) := by
  show some (PyData.list (cut (nL l) none (some 1))) = _
  rw [cut1]
theorem eqvAll_nL : ∀ (a b : List Nat), PyData.eqvAll (nL a) (nL b) = (a == b)
  | [], [] => rfl
  | x :: a, y :: b => by
    have := eqvAll_nL a b
    simp only [nL, List.map_cons, PyData.eqvAll, nI, r_eqi] at this ⊢
    rw [this, Bool.eq_iff_iff]
    simp [-List.contains_eq_mem]
    omega
  | [], _ :: _ => rfl
  | _ :: _, [] => rfl
theorem eqv_nLL {a b : List Nat} : PyData.eqv (.list (nL a)) (.list (nL b)) = (a == b) := eqvAll_nL a b
theorem eqv_nTT {a b : List Nat} : PyData.eqv (.tuple (nL a)) (.tuple (nL b)) = (a == b) := eqvAll_nL a b
/-- the numbers below n that a test keeps -/
theorem comp_range {n : Nat} {ρ : Env} {δ : DS} {i : Nat} {c : E} {F : Tab} {l : List Nat} (p : Nat → Bool) (hi : i < ρ.length) (hc : ∀ v ∈ l, evB F c (ρ.set i (.va (.int v))) δ = .ok (p v) δ) : compL (.n i) (evB F c) (ev F (.v i)) ρ (nL l) δ = .ok (nL (l.filter p)) δ := by
  rw [nL, compL_ok (h := nI) p nI]
  · rfl
  · intro v hv
    refine ⟨_, by simp [-List.contains_eq_mem, bindT, hi, nI], hc v hv, fun _ => ?_⟩
    simp [-List.contains_eq_mem, hi, nI]
theorem j_B {F : Tab} {c : E} {ρ : Env} {δ : DS} {x : Bool} (h : ev F c ρ δ = .ok (.bool x) δ) : evB F c ρ δ = .ok x δ := by
  rw [x_evB, h]; rfl
def lvalP (w : Wy) (x : Int) : Int := if x == 0 then 1 else if x == 1 || w.hf == "clear" then 0 else 1
def lownP (w : Wy) (t : List Nat) (b : Nat) : List Nat := (List.range t.length).filter fun k => k == b || (w.dn == "all" && (abv t k).contains b)
def lsisP (t : List Nat) (b : Nat) : List Nat := (List.range t.length).filter fun k => ((abv t k).take 1 == (abv t b).take 1) && !(k == b)
def lgoneP (t : List Nat) (b : Nat) : List Nat := (List.range t.length).filter fun k => !((k :: abv t k).filter fun h => (lsisP t b).contains h).isEmpty
def lafterP (t : List Nat) (s : List Int) (v : Int) (own gone : List Nat) : List Int := (List.range t.length).map fun k => if own.contains k then v else if gone.contains k then 0 else s.getD k 0
def lclickP (w : Wy) (t : List Nat) (s : List Int) (b : Nat) : List Int :=
  let v := lvalP w (s.getD b 0)
  let a := lafterP t s v (lownP w t b) (if w.al == 1 && v == 1 then lgoneP t b else [])
  if w.up == "none" then a else liftP w.up t (abv t b) a
theorem T_lclick_1 : T_law_click "_law_above" = some (.pu M_law_above) := rfl
theorem T_lclick_2 : T_law_click "_law_told" = some (.pu M_law_told) := rfl
theorem beq_nat {a b : Nat} : ((a : Int) == (b : Int)) = (a == b) := by
  rw [Bool.eq_iff_iff]
  simp [-List.contains_eq_mem]
  omega
theorem nL_app {a b : List Nat} : nL a ++ nL b = nL (a ++ b) := by simp [-List.contains_eq_mem, nL]
theorem e_lclick {w : Wy} {t : List Nat} {s : List Int} {b : Nat} (hw : w.ok) (ht : t ∈ trees) (hb : b < t.length) (hs : s.length = t.length) : M_law_click [wayD w, treeD t, .tuple (iL s), .int b] = .ok (.list (iL (lclickP w t s b))) ∧ (lclickP w t s b).length = t.length := by
  have ht5 := tree_small ht
  have hr : n1 (.int (t.length : Int)) = some (nL (List.range t.length)) := r_n1n (by omega)
  have hat := atI_nat (show b < s.length by omega)
  obtain ⟨x, hx⟩ : ∃ x, x = s.getD b 0 := ⟨_, rfl⟩
  rw [← hx] at hat
  obtain ⟨v, hve⟩ : ∃ v, v = lvalP w x := ⟨_, rfl⟩
  let ρ := fun (v o g s' j a : Slot) => ([.va (wayD w), .va (treeD t), .va (.tuple (iL s)), .va (.int b), v, o, .no, g, s', j, a, .no] : Env)
  have h1 : exec T_law_click (.set 4 (.ite (.cm .eq (.ix (.v 2) (.v 3)) (.k (.int 0))) (.k (.int 1)) (.ite (.or (.cm .eq (.ix (.v 2) (.v 3)) (.k (.int 1))) (.cm .eq (.ix (.v 0) (.k (.int 1))) (.k (.str "clear")))) (.k (.int 0)) (.k (.int 1))))) (ρ .no .no .no .no .no .no) none = .ok (.nx (ρ (.va (.int v)) .no .no .no .no .no)) none := by
    cases g1 : x == 0 <;> cases g2 : x == 1 <;> cases g3 : w.hf == "clear" <;> simp [-List.contains_eq_mem, ρ, hat, hw.shf, hve, lvalP, g1, g2, g3]
  have c2 : compL (.n 6) (evB T_law_click (.or (.cm .eq (.v 6) (.v 3)) (.an (.cm .eq (.ix (.v 0) (.k (.int 0))) (.k (.str "all"))) (.cm .isin (.v 3) (.ca "_law_above" (.cons (.v 1) (.cons (.v 6) .nil))))))) (ev T_law_click (.v 6)) (ρ (.va (.int v)) .no .no .no .no .no) (nL (List.range t.length)) none = .ok (nL (lownP w t b)) none :=
    comp_range (n := t.length) _ (by simp [-List.contains_eq_mem, ρ]) fun k hk => j_B (j_or (by simp [-List.contains_eq_mem, ρ, beq_nat]) (j_an (by simp [-List.contains_eq_mem, ρ, hw.sdn]) (by simp [-List.contains_eq_mem, ρ, T_lclick_1, e_above ht (List.mem_range.mp hk)])))
  have h2 : exec T_law_click (.set 5 (.co (.v 6) (.n 6) (.r1 (.bu .len (.cons (.v 1) .nil))) (.or (.cm .eq (.v 6) (.v 3)) (.an (.cm .eq (.ix (.v 0) (.k (.int 0))) (.k (.str "all"))) (.cm .isin (.v 3) (.ca "_law_above" (.cons (.v 1) (.cons (.v 6) .nil)))))))) (ρ (.va (.int v)) .no .no .no .no .no) none = .ok (.nx (ρ (.va (.int v)) (.ow (.list (nL (lownP w t b)))) .no .no .no .no)) none := by
    simp only [ρ] at c2 ⊢
    simp [-List.contains_eq_mem, -r_n1, hr, c2]
  have h3 : exec T_law_click (.set 7 (.ls .nil)) (ρ (.va (.int v)) (.ow (.list (nL (lownP w t b)))) .no .no .no .no) none = .ok (.nx (ρ (.va (.int v)) (.ow (.list (nL (lownP w t b)))) (.ow (.list (nL []))) .no .no .no)) none := by
    simp [-List.contains_eq_mem, ρ, nL]
  have c4 : compL (.n 6) (evB T_law_click (.an (.cm .eq (.sl (.ca "_law_above" (.cons (.v 1) (.cons (.v 6) .nil))) .na (.k (.int 1))) (.sl (.ca "_law_above" (.cons (.v 1) (.cons (.v 3) .nil))) .na (.k (.int 1)))) (.cm .ne (.v 6) (.v 3)))) (ev T_law_click (.v 6)) (ρ (.va (.int v)) (.ow (.list (nL (lownP w t b)))) (.ow (.list (nL []))) .no .no .no) (nL (List.range t.length)) none = .ok (nL (lsisP t b)) none :=
    comp_range (n := t.length) _ (by simp [-List.contains_eq_mem, ρ]) fun k hk => j_B (j_an (by simp [-List.contains_eq_mem, ρ, T_lclick_1, e_above ht (List.mem_range.mp hk), e_above ht hb, r_sl1, eqv_nLL]) (by simp [-List.contains_eq_mem, ρ, beq_nat]))
  have c5 : compL (.n 6) (evB T_law_click (.cm .ne (.co (.v 9) (.n 9) (.sq (.bin .add (.ls (.cons (.v 6) .nil)) (.ca "_law_above" (.cons (.v 1) (.cons (.v 6) .nil))))) (.cm .isin (.v 9) (.v 8))) (.ls .nil))) (ev T_law_click (.v 6)) (ρ (.va (.int v)) (.ow (.list (nL (lownP w t b)))) (.ow (.list (nL []))) (.ow (.list (nL (lsisP t b)))) .no .no) (nL (List.range t.length)) none = .ok (nL (lgoneP t b)) none :=
    comp_range (n := t.length) _ (by simp [-List.contains_eq_mem, ρ]) fun k hk => j_B (by
      have hk := List.mem_range.mp hk
      have hz2 : 1 + (abv t k).length ≤ big := by have := chain_len ht hk; unfold big; omega
      have inner : compL (.n 9) (evB T_law_click (.cm .isin (.v 9) (.v 8))) (ev T_law_click (.v 9)) [.va (wayD w), .va (treeD t), .va (.tuple (iL s)), .va (.int b), .va (.int v), .ow (.list (nL (lownP w t b))), .va (.int k), .ow (.list (nL [])), .ow (.list (nL (lsisP t b))), .no, .no, .no] (nL (k :: abv t k)) none = .ok (nL ((k :: abv t k).filter fun h => (lsisP t b).contains h)) none :=
        comp_range (n := t.length) _ (by simp [-List.contains_eq_mem]) fun h hh => by simp [-List.contains_eq_mem]
      change compL _ _ _ _ (.int (k : Int) :: nL (abv t k)) _ = _ at inner
      simp [-List.contains_eq_mem, ρ, T_lclick_1, e_above ht hk, hz2, inner, eqv_nL, show SeqAt.shaped (.list []) = true from rfl])
  have h4 : ∃ g', exec T_law_click (.ifs (.an (.cm .eq (.ix (.v 0) (.k (.int 3))) (.k (.int 1))) (.cm .eq (.v 4) (.k (.int 1)))) (.sq (.set 8 (.co (.v 6) (.n 6) (.r1 (.bu .len (.cons (.v 1) .nil))) (.an (.cm .eq (.sl (.ca "_law_above" (.cons (.v 1) (.cons (.v 6) .nil))) .na (.k (.int 1))) (.sl (.ca "_law_above" (.cons (.v 1) (.cons (.v 3) .nil))) .na (.k (.int 1)))) (.cm .ne (.v 6) (.v 3)))))
  (.sq (.set 7 (.co (.v 6) (.n 6) (.r1 (.bu .len (.cons (.v 1) .nil))) (.cm .ne (.co (.v 9) (.n 9) (.sq (.bin .add (.ls (.cons (.v 6) .nil)) (.ca "_law_above" (.cons (.v 1) (.cons (.v 6) .nil))))) (.cm .isin (.v 9) (.v 8))) (.ls .nil))))
  .sk)) .sk) (ρ (.va (.int v)) (.ow (.list (nL (lownP w t b)))) (.ow (.list (nL []))) .no .no .no) none = .ok (.nx (ρ (.va (.int v)) (.ow (.list (nL (lownP w t b)))) (.ow (.list (nL (if w.al == 1 && v == 1 then lgoneP t b else [])))) g' .no .no)) none := by
    simp only [ρ] at c4 c5 ⊢
    cases g1 : w.al == 1 <;> cases g2 : v == 1
    case true.true => exact ⟨.ow (.list (nL (lsisP t b))), by simp [-List.contains_eq_mem, -r_n1, hr, g1, g2, c4, c5]⟩
    all_goals exact ⟨.no, by simp [-List.contains_eq_mem, g1, g2]⟩
  obtain ⟨sg, h4⟩ := h4
  obtain ⟨gone, hgo⟩ : ∃ gone, gone = (if w.al == 1 && v == 1 then lgoneP t b else []) := ⟨_, rfl⟩
  rw [← hgo] at h4
  obtain ⟨own, how⟩ : ∃ own, own = lownP w t b := ⟨_, rfl⟩
  rw [← how] at h2 h3 h4
  have c6 : compL (.n 11) (evB T_law_click (.k (.bool true))) (ev T_law_click (.ite (.cm .isin (.v 11) (.v 5)) (.v 4) (.ite (.cm .isin (.v 11) (.v 7)) (.k (.int 0)) (.ix (.v 2) (.v 11))))) (ρ (.va (.int v)) (.ow (.list (nL own))) (.ow (.list (nL gone))) sg .no .no) (nL (List.range t.length)) none = .ok (iL (lafterP t s v own gone)) none := by
    rw [comp_alln (fun k => .int (if own.contains k then v else if gone.contains k then 0 else s.getD k 0)) (by simp [-List.contains_eq_mem, ρ]) (by simp [-List.contains_eq_mem, ρ]) (fun k hk => by
      have h0 := atI_nat (show k < s.length by have := List.mem_range.mp hk; omega)
      obtain ⟨y, hy⟩ : ∃ y, y = s.getD k 0 := ⟨_, rfl⟩
      rw [← hy] at h0
      simp only [← hy]
      cases g1 : own.contains k <;> cases g2 : gone.contains k <;> simp [-List.contains_eq_mem, ρ, h0, g1, g2])]
    simp [-List.contains_eq_mem, iL, lafterP]
  have h5 : exec T_law_click (.set 10 (.co (.ite (.cm .isin (.v 11) (.v 5)) (.v 4) (.ite (.cm .isin (.v 11) (.v 7)) (.k (.int 0)) (.ix (.v 2) (.v 11)))) (.n 11) (.r1 (.bu .len (.cons (.v 1) .nil))) (.k (.bool true)))) (ρ (.va (.int v)) (.ow (.list (nL own))) (.ow (.list (nL gone))) sg .no .no) none = .ok (.nx (ρ (.va (.int v)) (.ow (.list (nL own))) (.ow (.list (nL gone))) sg .no (.ow (.list (iL (lafterP t s v own gone)))))) none := by
    simp only [ρ] at c6 ⊢
    simp [-List.contains_eq_mem, -r_n1, hr, c6]
  obtain ⟨a, ha⟩ : ∃ a, a = lafterP t s v own gone := ⟨_, rfl⟩
  have hal : a.length = t.length := by simp [-List.contains_eq_mem, ha, lafterP]
  rw [← ha] at h5
  have hP : lclickP w t s b = if w.up == "none" then a else liftP w.up t (abv t b) a := by
    simp only [lclickP, ← hx, ← hve, ← hgo, ← how, ← ha]
  have h6 : ∃ j, (if w.up == "none" then a else liftP w.up t (abv t b) a).length = t.length ∧ exec T_law_click (.fors (.n 9) (.sq (.ite (.cm .ne (.ix (.v 0) (.k (.int 2))) (.k (.str "none"))) (.ca "_law_above" (.cons (.v 1) (.cons (.v 3) .nil))) (.ls .nil))) (.sq (.sti 10 (.v 9) (.ca "_law_told" (.cons (.ix (.v 0) (.k (.int 2))) (.cons (.v 1) (.cons (.v 10) (.cons (.v 9) .nil)))))) .sk)) (ρ (.va (.int v)) (.ow (.list (nL own))) (.ow (.list (nL gone))) sg .no (.ow (.list (iL a)))) none = .ok (.nx (ρ (.va (.int v)) (.ow (.list (nL own))) (.ow (.list (nL gone))) sg j (.ow (.list (iL (if w.up == "none" then a else liftP w.up t (abv t b) a)))))) none := by
    cases hn : w.up == "none" with
    | true => exact ⟨.no, hal, by simp [-List.contains_eq_mem, ρ, hw.sup, hn, loopF]⟩
    | false =>
      have k2 := loopF_ok (h := nI) (tg := .n 9) (b := exec T_law_click (.sq (.sti 10 (.v 9) (.ca "_law_told" (.cons (.ix (.v 0) (.k (.int 2))) (.cons (.v 1) (.cons (.v 10) (.cons (.v 9) .nil)))))) .sk)) (δ := none) (fun (vs : List Int) (j : Slot) => ρ (.va (.int v)) (.ow (.list (nL own))) (.ow (.list (nL gone))) sg j (.ow (.list (iL vs)))) (tellP w.up t) (fun vs => vs.length = t.length) (abv t b) a .no hal (fun a j x hx ha => by
        have hx : x < t.length := abv_lt ht hb hx
        refine ⟨by simp [-List.contains_eq_mem, tellP, ha], _, .va (.int x), rfl, ?_⟩
        have e : M_law_told [.str w.up, treeD t, .list (iL a), .int x] = _ := e_ltold (u := false) (hw.up3 hn) ht hx ha
        simp [-List.contains_eq_mem, ρ, nI, T_lclick_2, e, stiR, ixN_nat (show x < a.length by omega), iL_set, tellP])
      obtain ⟨g1, j, g2⟩ := k2
      refine ⟨j, g1, ?_⟩
      change loopF _ _ (nL _) _ _ = _ at g2
      simp only [ρ] at g2 ⊢
      simp [-List.contains_eq_mem, hw.sup, hn, T_lclick_1, e_above ht hb, g2, liftP]
  obtain ⟨j, hl, h6⟩ := h6
  rw [hP]
  refine ⟨runP_ok (δ := none) rfl ((seq_nx h1).trans ((seq_nx h2).trans ((seq_nx h3).trans ((seq_nx h4).trans ((seq_nx h5).trans ((seq_nx h6).trans ?_)))))), hl⟩
  simp [-List.contains_eq_mem, ρ]
end Tk
set_option linter.all false
set_option Elab.async false
set_option maxRecDepth 100000
set_option maxHeartbeats 1000000
namespace Tk
open PySem
def lflipP (t : List Nat) (s : List Int) : List Int := (List.range t.length).map fun k => if (lvs t).contains k then 1 - s.getD k 0 else s.getD k 0
def lturnP (w : Wy) (t : List Nat) (s : List Int) : List Int := (List.range t.length).reverse.foldl (fun a b => if !(w.up == "none") && !(lvs t).contains b then tellP w.up t a b else a) (lflipP t s)
def lafter2P (w : Wy) (t : List Nat) (s : List Int) : Dd → List Int
  | .click b => lclickP w t s b
  | .turn => lturnP w t s
  | .all => List.replicate t.length 1
  | .none => List.replicate t.length 0
def lkeptP (w : Wy) (t : List Nat) (s a : List Int) : Bool := (w.mo == 2 && decide (2 < ((tickP t a).length : Int))) || (w.mu == 1 && (((tickP t a).length : Int) == 0 && decide (0 < ((tickP t s).length : Int))))
def lstepP (w : Wy) (t : List Nat) (s : List Int) (d : Dd) : List Int := if lkeptP w t s (lafter2P w t s d) then s else lafter2P w t s d
theorem T_lstep_1 : T_law_step "_law_click" = some (.pu M_law_click) := rfl
theorem T_lstep_2 : T_law_step "_law_ticked" = some (.pu M_law_ticked) := rfl
theorem T_lstep_3 : T_law_step "_law_told" = some (.pu M_law_told) := rfl
theorem T_lstep_4 : T_law_step "_law_leaves" = some (.pu M_law_leaves) := rfl
theorem lstep_tail {w : Wy} {t : List Nat} {s a : List Int} {d : D} {sl j5 j6 : Slot} (hsl : sl = .va (.list (iL a)) ∨ sl = .ow (.list (iL a))) (ht : t ∈ trees) (hs : s.length = t.length) (ha : a.length = t.length) :
    exec T_law_step (.sq (.sets [7, 8] (.cons (.bu .len (.cons (.ca "_law_ticked" (.cons (.v 1) (.cons (.v 4) .nil))) .nil)) (.cons (.bu .len (.cons (.ca "_law_ticked" (.cons (.v 1) (.cons (.v 2) .nil))) .nil)) .nil)))
  (.sq (.ret (.ite (.or (.an (.cm .eq (.ix (.v 0) (.k (.int 5))) (.k (.int 2))) (.cm .gt (.v 7) (.k (.int 2)))) (.an (.cm .eq (.ix (.v 0) (.k (.int 4))) (.k (.int 1))) (.an (.cm .eq (.v 7) (.k (.int 0))) (.cm .gt (.v 8) (.k (.int 0)))))) (.v 2) (.bu .tuple (.cons (.v 4) .nil))))
  .sk)) [.va (wayD w), .va (treeD t), .va (.tuple (iL s)), .va d, sl, j5, j6, .no, .no] none = .ok (.rt (.tuple (iL (if lkeptP w t s a then s else a)))) none := by
  have e1 : M_law_ticked [treeD t, .tuple (iL s)] = _ := e_lticked (u := true) ht hs
  have e2 : M_law_ticked [treeD t, .list (iL a)] = _ := e_lticked (u := false) ht ha
  have hc : ev T_law_step (.or (.an (.cm .eq (.ix (.v 0) (.k (.int 5))) (.k (.int 2))) (.cm .gt (.v 7) (.k (.int 2)))) (.an (.cm .eq (.ix (.v 0) (.k (.int 4))) (.k (.int 1))) (.an (.cm .eq (.v 7) (.k (.int 0))) (.cm .gt (.v 8) (.k (.int 0)))))) [.va (wayD w), .va (treeD t), .va (.tuple (iL s)), .va d, sl, j5, j6, .va (.int (tickP t a).length), .va (.int (tickP t s).length)] none = .ok (.bool (lkeptP w t s a)) none :=
    j_or (j_an (by simp [-List.contains_eq_mem]) (by simp [-List.contains_eq_mem])) (j_an (by simp [-List.contains_eq_mem]) (j_an (by simp [-List.contains_eq_mem]) (by simp [-List.contains_eq_mem])))
  rcases hsl with rfl | rfl <;> cases hk : lkeptP w t s a <;> rw [hk] at hc <;> simp [-List.contains_eq_mem, -x_or, T_lstep_2, e1, e2, hc]
theorem e_lturn {w : Wy} {t : List Nat} {s : List Int} (hw : w.ok) (ht : t ∈ trees) (hs : s.length = t.length) : (lturnP w t s).length = t.length ∧ ∃ j, exec T_law_step (.sq (.set 4 (.co (.ite (.cm .isin (.v 5) (.ca "_law_leaves" (.cons (.v 1) .nil))) (.bin .sub (.k (.int 1)) (.ix (.v 2) (.v 5))) (.ix (.v 2) (.v 5))) (.n 5) (.r1 (.bu .len (.cons (.v 1) .nil))) (.k (.bool true))))
  (.sq (.fors (.n 6) (.sq (.rv (.bu .lrange (.cons (.bu .len (.cons (.v 1) .nil)) .nil)))) (.sq (.ifs (.an (.cm .ne (.ix (.v 0) (.k (.int 2))) (.k (.str "none"))) (.cm .nin (.v 6) (.ca "_law_leaves" (.cons (.v 1) .nil)))) (.sq (.sti 4 (.v 6) (.ca "_law_told" (.cons (.ix (.v 0) (.k (.int 2))) (.cons (.v 1) (.cons (.v 4) (.cons (.v 6) .nil))))))
  .sk) .sk)
  .sk))
  .sk)) [.va (wayD w), .va (treeD t), .va (.tuple (iL s)), .va (deedD .turn), .no, .no, .no, .no, .no] none = .ok (.nx [.va (wayD w), .va (treeD t), .va (.tuple (iL s)), .va (deedD .turn), .ow (.list (iL (lturnP w t s))), .no, j, .no, .no]) none := by
  have ht5 := tree_small ht
  have hr : n1 (.int (t.length : Int)) = some (nL (List.range t.length)) := r_n1n (by omega)
  have c1 : compL (.n 5) (evB T_law_step (.k (.bool true))) (ev T_law_step (.ite (.cm .isin (.v 5) (.ca "_law_leaves" (.cons (.v 1) .nil))) (.bin .sub (.k (.int 1)) (.ix (.v 2) (.v 5))) (.ix (.v 2) (.v 5)))) [.va (wayD w), .va (treeD t), .va (.tuple (iL s)), .va (deedD .turn), .no, .no, .no, .no, .no] (nL (List.range t.length)) none = .ok (iL (lflipP t s)) none := by
    rw [comp_alln (fun k => .int (if (lvs t).contains k then 1 - s.getD k 0 else s.getD k 0)) (by simp [-List.contains_eq_mem]) (by simp [-List.contains_eq_mem]) (fun k hk => by
      have h0 := atI_nat (show k < s.length by have := List.mem_range.mp hk; omega)
      obtain ⟨y, hy⟩ : ∃ y, y = s.getD k 0 := ⟨_, rfl⟩
      rw [← hy] at h0
      simp only [← hy]
      cases g1 : (lvs t).contains k <;> simp [-List.contains_eq_mem, h0, g1, T_lstep_4, e_lleaves ht])]
    simp [-List.contains_eq_mem, iL, lflipP]
  have k2 := loopF_ok (h := nI) (tg := .n 6) (b := exec T_law_step (.sq (.ifs (.an (.cm .ne (.ix (.v 0) (.k (.int 2))) (.k (.str "none"))) (.cm .nin (.v 6) (.ca "_law_leaves" (.cons (.v 1) .nil)))) (.sq (.sti 4 (.v 6) (.ca "_law_told" (.cons (.ix (.v 0) (.k (.int 2))) (.cons (.v 1) (.cons (.v 4) (.cons (.v 6) .nil))))))
  .sk) .sk)
  .sk)) (δ := none) (fun (vs : List Int) (j : Slot) => [.va (wayD w), .va (treeD t), .va (.tuple (iL s)), .va (deedD .turn), .ow (.list (iL vs)), .no, j, .no, .no]) (fun a b => if !(w.up == "none") && !(lvs t).contains b then tellP w.up t a b else a) (fun vs => vs.length = t.length) (List.range t.length).reverse (lflipP t s) .no (by simp [-List.contains_eq_mem, lflipP]) (fun a j x hx ha => by
      have hx : x < t.length := by simpa using hx
      refine ⟨by split <;> simp [-List.contains_eq_mem, tellP, ha], _, .va (.int x), rfl, ?_⟩
      cases hn : w.up == "none" with
      | true => simp [-List.contains_eq_mem, nI, hw.sup, hn]
      | false =>
        have e : M_law_told [.str w.up, treeD t, .list (iL a), .int x] = _ := e_ltold (u := false) (hw.up3 hn) ht hx ha
        cases hl : (lvs t).contains x with
        | true => simp [-List.contains_eq_mem, nI, hw.sup, hn, T_lstep_4, e_lleaves ht, hl]
        | false => simp [-List.contains_eq_mem, nI, hw.sup, hn, T_lstep_4, e_lleaves ht, hl, T_lstep_3, e, stiR, ixN_nat (show x < a.length by omega), iL_set, tellP])
  obtain ⟨g1, j', g2⟩ := k2
  change loopF _ _ (nL _) _ _ = _ at g2
  refine ⟨g1, j', ?_⟩
  simp [-List.contains_eq_mem, -r_n1, hr, c1, r_lrange (show t.length ≤ 100000 by omega), g2, lturnP]
theorem e_lstep {w : Wy} {t : List Nat} {s : List Int} {d : Dd} (hw : w.ok) (ht : t ∈ trees) (hd : d.ok t) (hs : s.length = t.length) : M_law_step [wayD w, treeD t, .tuple (iL s), deedD d] = .ok (.tuple (iL (lstepP w t s d))) := by
  have ha : (lafter2P w t s d).length = t.length := by
    cases d with
    | click b => exact (e_lclick hw ht hd hs).2
    | turn => exact (e_lturn hw ht hs).1
    | all => simp [-List.contains_eq_mem, lafter2P]
    | none => simp [-List.contains_eq_mem, lafter2P]
  have ht5 := tree_small ht
  cases d with
  | click b =>
    refine runP_ok (δ := none) rfl ((seq_nx ?_).trans (lstep_tail (sl := .va (.list (iL (lafter2P w t s (.click b))))) (j5 := .no) (j6 := .no) (d := deedD (.click b)) (.inl rfl) ht hs ha))
    simp [-List.contains_eq_mem, d_0, d_c1, T_lstep_1, (e_lclick hw ht hd hs).1, lafter2P]
  | turn =>
    obtain ⟨_, j, h⟩ := e_lturn hw ht hs
    refine runP_ok (δ := none) rfl ((seq_nx ?_).trans (lstep_tail (sl := .ow (.list (iL (lafter2P w t s .turn)))) (j5 := .no) (j6 := j) (d := deedD .turn) (.inr rfl) ht hs ha))
    rw [sx_ifs]
    simp only [lafter2P]
    simp [-List.contains_eq_mem, -sx_sq, sx_sq (b := .sk), d_0, show ((Str.ofString "turn") == (Str.ofString "click")) = false from by decide]
    rw [show (_ : R Fl) = _ from h]
    simp [-List.contains_eq_mem]
  | all =>
    refine runP_ok (δ := none) rfl ((seq_nx ?_).trans (lstep_tail (sl := .ow (.list (iL (lafter2P w t s .all)))) (j5 := .no) (j6 := .no) (d := deedD .all) (.inr rfl) ht hs ha))
    simp [-List.contains_eq_mem, -r_rep, d_0, r_repi (show t.length ≤ 1000 by omega), lafter2P, show ((Str.ofString "all") == (Str.ofString "click")) = false from by decide, show ((Str.ofString "all") == (Str.ofString "turn")) = false from by decide]
  | none =>
    refine runP_ok (δ := none) rfl ((seq_nx ?_).trans (lstep_tail (sl := .ow (.list (iL (lafter2P w t s .none)))) (j5 := .no) (j6 := .no) (d := deedD .none) (.inr rfl) ht hs ha))
    simp [-List.contains_eq_mem, -r_rep, d_0, r_repi (show t.length ≤ 1000 by omega), lafter2P, show ((Str.ofString "none") == (Str.ofString "click")) = false from by decide, show ((Str.ofString "none") == (Str.ofString "turn")) = false from by decide, show ((Str.ofString "none") == (Str.ofString "all")) = false from by decide]
end Tk
set_option linter.all false
set_option Elab.async false
set_option maxRecDepth 100000
set_option maxHeartbeats 1000000
namespace Tk
open PySem
/-! ### the plain law: the two steps are one -/
def okV (w : Wy) (t : List Nat) (k : Nat) (v : Int) : Prop := v = 0 ∨ v = 1 ∨ (v = 2 ∧ (lvs t).contains k = false ∧ w.up = "half")
def GoodS1 (w : Wy) (t : List Nat) (s : List Int) : Prop := s.length = t.length ∧ ∀ k, k < t.length → okV w t k (s.getD k 0)
theorem ext0 {a b : List Int} (hl : a.length = b.length) (h : ∀ k, k < a.length → a.getD k 0 = b.getD k 0) : a = b := by
  refine List.ext_getElem hl fun k h1 h2 => ?_
  have := h k h1
  rw [List.getD_eq_getElem?_getD, List.getD_eq_getElem?_getD, List.getElem?_eq_getElem h1, List.getElem?_eq_getElem h2] at this
  simpa using this
theorem getD_set {a : List Int} {i k : Nat} {v : Int} (hk : k < a.length) : (a.set i v).getD k 0 = if i = k then v else a.getD k 0 := by
  rw [List.getD_eq_getElem?_getD, List.getElem?_set]
  split
  · subst_vars
    simp [-List.contains_eq_mem, hk]
  · rw [List.getD_eq_getElem?_getD]
theorem getD_putAll {is : List Nat} {v : Int} {k : Nat} : ∀ {a : List Int}, k < a.length → (putAll a is v).getD k 0 = if is.contains k then v else a.getD k 0 := by
  induction is with
  | nil => intro a _; rfl
  | cons i is ih =>
    intro a hk
    have e : putAll a (i :: is) v = putAll (a.set i v) is v := rfl
    rw [e, ih (by simpa using hk), getD_set hk, List.contains_cons]
    by_cases h1 : is.contains k
    · simp [-List.contains_eq_mem, h1]
    · by_cases h2 : i = k
      · subst h2; simp [-List.contains_eq_mem]
      · have h3 : (k == i) = false := by simp [-List.contains_eq_mem]; omega
        simp [-List.contains_eq_mem, h1, h2, h3]
theorem getD_sistG {t : List Nat} {b k : Nat} {l : List Nat} : ∀ {a : List Int}, k < a.length → (l.foldl (fun a s => if s == b then a else putAll a (s :: bel t s) 0) a).getD k 0 = if l.any (fun s => !(s == b) && (s :: bel t s).contains k) then 0 else a.getD k 0 := by
  induction l with
  | nil => intro a _; rfl
  | cons s l ih =>
    intro a hk
    rw [List.foldl_cons, List.any_cons]
    cases hs : s == b with
    | true =>
      rw [if_pos rfl, ih hk]
      simp [-List.contains_eq_mem]
    | false =>
      rw [if_neg (by simp [-List.contains_eq_mem]), ih (by rw [putAll_len]; exact hk), getD_putAll hk]
      cases h1 : (s :: bel t s).contains k <;> cases h2 : l.any (fun s => !(s == b) && (s :: bel t s).contains k) <;> simp [-List.contains_eq_mem]
theorem flip_get {k : Nat} : ∀ {l : List Nat} {a : List Int}, l.Nodup → k < a.length → (l.foldl (fun a b => a.set b (1 - a.getD b 0)) a).getD k 0 = if l.contains k then 1 - a.getD k 0 else a.getD k 0
  | [], a, _, _ => rfl
  | b :: l, a, hn, hk => by
    rw [List.foldl_cons, flip_get (List.nodup_cons.mp hn).2 (by simpa using hk), getD_set hk, List.contains_cons]
    by_cases h1 : b = k
    · subst h1
      have : l.contains b = false := by
        have := (List.nodup_cons.mp hn).1
        simpa [List.contains_eq_mem] using this
      simp [-List.contains_eq_mem, this]
    · have h3 : (k == b) = false := by simp [-List.contains_eq_mem]; omega
      simp [-List.contains_eq_mem, h1, h3]
theorem flip_len : ∀ {l : List Nat} {a : List Int}, (l.foldl (fun a b => a.set b (1 - a.getD b 0)) a).length = a.length
  | [], a => rfl
  | b :: l, a => by rw [List.foldl_cons, flip_len]; simp [-List.contains_eq_mem]
theorem lvs_nodup {t : List Nat} : (lvs t).Nodup := List.nodup_range.filter _
theorem getD_map {n k : Nat} {f : Nat → Int} (h : k < n) : ((List.range n).map f).getD k 0 = f k := by
  rw [List.getD_eq_getElem?_getD]
  simp [-List.contains_eq_mem, h]
theorem flip_eq {t : List Nat} {s : List Int} (hs : s.length = t.length) : (lvs t).foldl (fun a b => a.set b (1 - a.getD b 0)) s = lflipP t s := by
  refine ext0 (by rw [flip_len]; simp [-List.contains_eq_mem, lflipP, hs]) fun k hk => ?_
  rw [flip_len] at hk
  rw [flip_get lvs_nodup hk, lflipP, getD_map (by omega)]
theorem turn_eq {w : Wy} {t : List Nat} {s : List Int} (hs : s.length = t.length) : turnP w t s = lturnP w t s := by
  simp only [turnP, lturnP, flip_eq hs]
  cases hn : w.up == "none" with
  | true =>
    simp only [if_true, Bool.not_true, Bool.false_and, Bool.false_eq_true, if_false]
    have : ∀ (l : List Nat) (a : List Int), l.foldl (fun a _ => a) a = a := fun l => by
      induction l with
      | nil => intro a; rfl
      | cons x l ih => intro a; exact ih a
    rw [this]
  | false =>
    simp only [Bool.false_eq_true, if_false, Bool.not_false, Bool.true_and]
    congr 1
    funext a b
    cases (lvs t).contains b <;> rfl
def shape2B (t : List Nat) (b : Nat) : Bool := (List.range t.length).all fun k => decide ((sis t b).any (fun s => !(s == b) && (s :: bel t s).contains k) = (lgoneP t b).contains k)
theorem shapes2B : trees.all (fun t => (List.range t.length).all (shape2B t)) = true := by decide +kernel
theorem gone_eq {t : List Nat} {b k : Nat} (ht : t ∈ trees) (hb : b < t.length) (hk : k < t.length) : (sis t b).any (fun s => !(s == b) && (s :: bel t s).contains k) = (lgoneP t b).contains k := by
  have h := List.all_eq_true.mp (List.all_eq_true.mp shapes2B t ht) b (List.mem_range.mpr hb)
  exact of_decide_eq_true (List.all_eq_true.mp h k (List.mem_range.mpr hk))
theorem own_apart {t : List Nat} {b k : Nat} (ht : t ∈ trees) (hb : b < t.length) (hk : k < t.length) : (b :: bel t b).contains k = (k == b || (abv t k).contains b) ∧ ((b :: bel t b).contains k && (lgoneP t b).contains k) = false := by
  have h := shape ht hb
  simp only [shapeB, Bool.and_eq_true, List.all_eq_true, List.mem_range, Bool.not_eq_true', decide_eq_true_eq] at h
  obtain ⟨⟨h1, _⟩, h3⟩ := h.2 k hk
  rw [gone_eq ht hb hk] at h3
  exact ⟨h1, h3⟩
theorem contains_filter_range {n k : Nat} {p : Nat → Bool} (h : k < n) : ((List.range n).filter p).contains k = p k := by
  rw [Bool.eq_iff_iff]
  simp [-List.contains_eq_mem, h, List.contains_eq_mem]
theorem val_eq {w : Wy} {x : Int} (hw : w.ok) (h : x = 0 ∨ x = 1 ∨ x = 2) : valP w x = lvalP w x := by
  unfold valP lvalP
  rcases h with rfl | rfl | rfl
  · rfl
  · rfl
  · rcases hw.2.1 with h | h <;> rw [h] <;> decide
theorem okV.three {w : Wy} {t : List Nat} {k : Nat} {v : Int} (h : okV w t k v) : v = 0 ∨ v = 1 ∨ v = 2 := by
  rcases h with h | h | ⟨h, _⟩
  · exact .inl h
  · exact .inr (.inl h)
  · exact .inr (.inr h)
theorem down_own {w : Wy} {t : List Nat} {b k : Nat} (ht : t ∈ trees) (hb : b < t.length) (hk : k < t.length) : (downP w t b).contains k = (lownP w t b).contains k := by
  rw [lownP, contains_filter_range hk, downP]
  cases hd : w.dn == "all" with
  | true =>
    rw [if_pos rfl, (own_apart ht hb hk).1]
    simp [-List.contains_eq_mem]
  | false => simp [-List.contains_eq_mem, List.contains_cons]
theorem down_gone {w : Wy} {t : List Nat} {b k : Nat} (ht : t ∈ trees) (hb : b < t.length) (hk : k < t.length) (h : (lownP w t b).contains k = true) : (lgoneP t b).contains k = false := by
  have h2 := (own_apart ht hb hk).2
  rw [(own_apart ht hb hk).1] at h2
  rw [lownP, contains_filter_range hk] at h
  cases hg : (lgoneP t b).contains k with
  | false => rfl
  | true =>
    rw [hg, Bool.and_true] at h2
    simp only [Bool.or_eq_false_iff] at h2
    rw [h2.1, h2.2] at h
    simp [-List.contains_eq_mem] at h
theorem click_eq {w : Wy} {t : List Nat} {s : List Int} {b : Nat} (hw : w.ok) (ht : t ∈ trees) (hb : b < t.length) (g : GoodS1 w t s) : clickP w t s b = lclickP w t s b := by
  simp only [clickP, lclickP, val_eq hw (g.2 b hb).three]
  obtain ⟨v, hv⟩ : ∃ v, v = lvalP w (s.getD b 0) := ⟨_, rfl⟩
  rw [← hv]
  have e : (if (w.al == 1 && v == 1) = true then sistP t b (putAll s (downP w t b) v) else putAll s (downP w t b) v) = lafterP t s v (lownP w t b) (if (w.al == 1 && v == 1) = true then lgoneP t b else []) := by
    have hl : s.length = t.length := g.1
    have sl : (sistP t b (putAll s (downP w t b) v)).length = t.length := by
      unfold sistP
      have : ∀ (l : List Nat) (a : List Int), (l.foldl (fun a s => if s == b then a else putAll a (s :: bel t s) 0) a).length = a.length := fun l => by
        induction l with
        | nil => intro a; rfl
        | cons x l ih =>
          intro a
          rw [List.foldl_cons, ih]
          split
          · rfl
          · rw [putAll_len]
      rw [this, putAll_len, hl]
    refine ext0 ?_ fun k hk => ?_
    · split
      · rw [sl]; simp [-List.contains_eq_mem, lafterP]
      · rw [putAll_len]; simp [-List.contains_eq_mem, lafterP, hl]
    · have hk : k < t.length := by
        split at hk
        · rw [sl] at hk; exact hk
        · rw [putAll_len, hl] at hk; exact hk
      rw [lafterP, getD_map hk]
      cases hc : w.al == 1 && v == 1 with
      | true =>
        rw [if_pos rfl, if_pos rfl, sistP, getD_sistG (by rw [putAll_len]; omega), getD_putAll (by omega), gone_eq ht hb hk, down_own ht hb hk]
        cases ho : (lownP w t b).contains k with
        | true => rw [down_gone ht hb hk ho]; rfl
        | false => rfl
      | false =>
        rw [if_neg (by simp [-List.contains_eq_mem]), getD_putAll (by omega), down_own ht hb hk]
        cases ho : (lownP w t b).contains k <;> simp [-List.contains_eq_mem]
  rw [e]
theorem after_eq {w : Wy} {t : List Nat} {s : List Int} {d : Dd} (hw : w.ok) (ht : t ∈ trees) (hd : d.ok t) (g : GoodS1 w t s) : afterP w t s d = lafter2P w t s d := by
  cases d with
  | click b => exact click_eq hw ht hd g
  | turn => exact turn_eq g.1
  | all => rfl
  | none => rfl
theorem kept_eq {w : Wy} {t : List Nat} {s a : List Int} : keptP w t s a = lkeptP w t s a := by
  unfold keptP lkeptP
  cases tickP t s with
  | nil => rfl
  | cons x l => simp [-List.contains_eq_mem]
theorem step_eq {w : Wy} {t : List Nat} {s : List Int} {d : Dd} (hw : w.ok) (ht : t ∈ trees) (hd : d.ok t) (g : GoodS1 w t s) : stepP w t s d = lstepP w t s d := by
  simp only [stepP, lstepP, after_eq hw ht hd g, kept_eq]
/-! ### what stays true -/
theorem GoodS1.set {w : Wy} {t : List Nat} {s : List Int} {k : Nat} {v : Int} (g : GoodS1 w t s) (h : okV w t k v) : GoodS1 w t (s.set k v) := by
  refine ⟨by simp [-List.contains_eq_mem, g.1], fun i hi => ?_⟩
  rw [getD_set (by rw [g.1]; exact hi)]
  split
  · subst_vars; exact h
  · exact g.2 i hi
theorem GoodS1.foldl {w : Wy} {t : List Nat} {f : List Int → Nat → List Int} {l : List Nat} (h : ∀ a k, k ∈ l → GoodS1 w t a → GoodS1 w t (f a k)) : ∀ {s : List Int}, GoodS1 w t s → GoodS1 w t (l.foldl f s) := by
  induction l with
  | nil => exact fun g => g
  | cons x l ih => exact fun g => ih (fun a k hk => h a k (by simp [-List.contains_eq_mem, hk])) (h _ x (by simp [-List.contains_eq_mem]) g)
theorem GoodS1.putAll {w : Wy} {t : List Nat} {s : List Int} {is : List Nat} {v : Int} (g : GoodS1 w t s) (h : v = 0 ∨ v = 1) : GoodS1 w t (putAll s is v) :=
  GoodS1.foldl (fun a k _ g => g.set (h.elim .inl fun h => .inr (.inl h))) g
theorem told_ok {w : Wy} {t : List Nat} {h : Nat} {vs : List Int} (hw : w.ok) (hn : (w.up == "none") = false) (hl : (lvs t).contains h = false) : okV w t h (toldP w.up vs) := by
  have h3 := hw.up3 hn
  unfold toldP
  rcases h3 with e | e | e <;> rw [e]
  · rw [if_neg (by decide)]
    split
    · exact .inr (.inl rfl)
    · split
      · exact .inl rfl
      · exact .inr (.inr ⟨rfl, hl, e⟩)
  · rw [if_pos (by decide)]
    split
    · exact .inr (.inl rfl)
    · exact .inl rfl
  · rw [if_neg (by decide)]
    split
    · exact .inr (.inl rfl)
    · rw [if_pos (by simp [-List.contains_eq_mem])]
      exact .inl rfl
theorem abv_inner {t : List Nat} {b h : Nat} (ht : t ∈ trees) (hb : b < t.length) (hm : h ∈ abv t b) : (lvs t).contains h = false := by
  have hs := shape ht hb
  simp only [shapeB, Bool.and_eq_true, List.all_eq_true, Bool.not_eq_true'] at hs
  exact hs.1.1.2 h hm
theorem GoodS1.lift {w : Wy} {t : List Nat} {s : List Int} {b : Nat} (hw : w.ok) (hn : (w.up == "none") = false) (ht : t ∈ trees) (hb : b < t.length) (g : GoodS1 w t s) : GoodS1 w t (liftP w.up t (abv t b) s) :=
  GoodS1.foldl (fun a k hk g => g.set (told_ok hw hn (abv_inner ht hb hk))) g
theorem GoodS1.click {w : Wy} {t : List Nat} {s : List Int} {b : Nat} (hw : w.ok) (ht : t ∈ trees) (hb : b < t.length) (g : GoodS1 w t s) : GoodS1 w t (clickP w t s b) := by
  have hv : valP w (s.getD b 0) = 0 ∨ valP w (s.getD b 0) = 1 := by unfold valP; split <;> simp [-List.contains_eq_mem]
  have g1 : GoodS1 w t (if (w.al == 1 && valP w (s.getD b 0) == 1) = true then sistP t b (Tk.putAll s (downP w t b) (valP w (s.getD b 0))) else Tk.putAll s (downP w t b) (valP w (s.getD b 0))) := by
    split
    · refine GoodS1.foldl (fun a k _ g => ?_) (g.putAll hv)
      show GoodS1 w t (if (k == b) = true then a else Tk.putAll a (k :: bel t k) 0)
      split
      · exact g
      · exact g.putAll (.inl rfl)
    · exact g.putAll hv
  simp only [clickP]
  cases hn : w.up == "none" with
  | true => rw [if_pos rfl]; exact g1
  | false => rw [if_neg (by simp [-List.contains_eq_mem])]; exact g1.lift hw hn ht hb
theorem GoodS1.flip {w : Wy} {t : List Nat} {s : List Int} (g : GoodS1 w t s) : GoodS1 w t (lflipP t s) := by
  refine ⟨by simp [-List.contains_eq_mem, lflipP], fun k hk => ?_⟩
  rw [lflipP, getD_map hk]
  cases hl : (lvs t).contains k with
  | true =>
    rw [if_pos rfl]
    rcases g.2 k hk with h | h | ⟨_, h, _⟩
    · rw [h]; exact .inr (.inl rfl)
    · rw [h]; exact .inl rfl
    · rw [h] at hl; cases hl
  | false => rw [if_neg (by simp [-List.contains_eq_mem])]; exact g.2 k hk
theorem GoodS1.turn {w : Wy} {t : List Nat} {s : List Int} (hw : w.ok) (g : GoodS1 w t s) : GoodS1 w t (turnP w t s) := by
  simp only [turnP, flip_eq g.1]
  cases hn : w.up == "none" with
  | true => rw [if_pos rfl]; exact g.flip
  | false =>
    rw [if_neg (by simp [-List.contains_eq_mem])]
    refine GoodS1.foldl (fun a k _ g => ?_) g.flip
    show GoodS1 w t (if (lvs t).contains k = true then a else tellP w.up t a k)
    cases hl : (lvs t).contains k with
    | true => exact g
    | false => exact g.set (told_ok hw hn hl)
theorem GoodS1.rep {w : Wy} {t : List Nat} {v : Int} (h : v = 0 ∨ v = 1) : GoodS1 w t (List.replicate t.length v) := by
  refine ⟨by simp [-List.contains_eq_mem], fun k hk => ?_⟩
  have : (List.replicate t.length v).getD k 0 = v := by
    rw [List.getD_eq_getElem?_getD]
    simp [-List.contains_eq_mem, hk]
  rw [this]
  exact h.elim .inl fun h => .inr (.inl h)
theorem GoodS1.after {w : Wy} {t : List Nat} {s : List Int} {d : Dd} (hw : w.ok) (ht : t ∈ trees) (hd : d.ok t) (g : GoodS1 w t s) : GoodS1 w t (afterP w t s d) := by
  cases d with
  | click b => exact g.click hw ht hd
  | turn => exact g.turn hw
  | all => exact GoodS1.rep (.inr rfl)
  | none => exact GoodS1.rep (.inl rfl)
/-- good, and no more ticked than may be -/
def Fine (w : Wy) (t : List Nat) (s : List Int) : Prop := GoodS1 w t s ∧ (w.mo = 2 → (tickP t s).length ≤ 2)
theorem Fine.step {w : Wy} {t : List Nat} {s : List Int} {d : Dd} (hw : w.ok) (ht : t ∈ trees) (hd : d.ok t) (f : Fine w t s) : Fine w t (stepP w t s d) := by
  unfold stepP
  cases hk : keptP w t s (afterP w t s d) with
  | true => exact f
  | false =>
    refine ⟨f.1.after hw ht hd, fun h2 => ?_⟩
    simp only [keptP, Bool.or_eq_false_iff, h2] at hk
    have := hk.1
    simp [-List.contains_eq_mem] at this
    rw [if_neg (by simp [-List.contains_eq_mem])]
    omega
def firstP (t : List Nat) : List Int := List.replicate t.length 0
theorem Fine.first {w : Wy} {t : List Nat} : Fine w t (firstP t) := by
  refine ⟨GoodS1.rep (.inl rfl), fun _ => ?_⟩
  have : tickP t (firstP t) = [] := by
    unfold tickP
    rw [List.filter_eq_nil_iff]
    intro b _
    simp only [firstP, List.getD_eq_getElem?_getD, List.getElem?_replicate]
    split <;> simp [-List.contains_eq_mem]
  rw [this]
  simp [-List.contains_eq_mem]
end Tk
set_option linter.all false
set_option Elab.async false
set_option maxRecDepth 100000
set_option maxHeartbeats 1000000
namespace Tk
open PySem
/-! ### checks -/
def ways : List Wy := ([("all" : Str), "own"].flatMap fun a => [("tick" : Str), "clear"].flatMap fun b => [("half" : Str), "any", "every", "none"].flatMap fun c => [(0 : Int), 1].flatMap fun d => [(0 : Int), 1].flatMap fun e => [(0 : Int), 2].map fun f => ⟨a, b, c, d, e, f⟩)
theorem mem_ways {w : Wy} (h : w.ok) : w ∈ ways := by
  obtain ⟨a, b, c, d, e, f⟩ := w
  obtain ⟨h1, h2, h3, h4, h5, h6⟩ := h
  simp only at h1 h2 h3 h4 h5 h6
  simp only [ways, List.mem_flatMap, List.mem_map, List.mem_cons, List.not_mem_nil, or_false]
  exact ⟨a, h1, b, h2, c, h3, d, h4, e, h5, f, h6, rfl⟩
theorem waysB : ways.all (fun w => okB (M_is_way [wayD w]) true) = true := by decide +kernel
theorem e_is_way {w : Wy} (h : w.ok) : M_is_way [wayD w] = .ok (.bool true) := okB_eq (List.all_eq_true.mp waysB w (mem_ways h))
theorem T_cw_1 : T_check_way "is_way" = some (.pu M_is_way) := rfl
theorem e_check_way {w : Wy} (h : w.ok) : M_check_way [wayD w] = .ok .none := by
  simp [-List.contains_eq_mem, M_check_way, A_check_way, T_cw_1, e_is_way h]
theorem T_ct_1 : T_check_tree "is_tree" = some (.pu M_is_tree) := rfl
theorem e_check_tree {t : List Nat} (h : t ∈ trees) : M_check_tree [treeD t] = .ok .none := by
  simp [-List.contains_eq_mem, M_check_tree, A_check_tree, T_ct_1, e_is_tree h]
def onesB (t : List Nat) : Bool := okB (M_is_one [treeD t, deedD .all]) true && okB (M_is_one [treeD t, deedD .none]) true && okB (M_is_one [treeD t, deedD .turn]) true && (List.range t.length).all fun b => okB (M_is_one [treeD t, deedD (.click b)]) true
theorem ones : trees.all onesB = true := by decide +kernel
theorem e_is_one {t : List Nat} {d : Dd} (h : t ∈ trees) (hd : d.ok t) : M_is_one [treeD t, deedD d] = .ok (.bool true) := by
  have := List.all_eq_true.mp ones t h
  simp only [onesB, Bool.and_eq_true, List.all_eq_true, List.mem_range] at this
  cases d with
  | click b => exact okB_eq (this.2 b hd)
  | all => exact okB_eq this.1.1.1
  | none => exact okB_eq this.1.1.2
  | turn => exact okB_eq this.1.2
def rowD (ds : List Dd) : D := .list (ds.map deedD)
theorem T_ad_1 : T_are_deeds "is_one" = some (.pu M_is_one) := rfl
theorem e_are_deeds {t : List Nat} {ds : List Dd} (ht : t ∈ trees) (hd : ∀ d ∈ ds, d.ok t) (hl : ds.length ≤ 40) : M_are_deeds [treeD t, rowD ds] = .ok (.bool true) := by
  have c1 : compL (.n 2) (evB T_are_deeds (.k (.bool true))) (ev T_are_deeds (.ca "is_one" (.cons (.v 0) (.cons (.v 2) .nil)))) [.va (treeD t), .va (rowD ds), .no] (ds.map deedD) none = .ok (ds.map fun _ => .bool true) none := by
    rw [compL_ok (h := deedD) (fun _ => true) (fun _ => .bool true)]
    · rw [List.filter_eq_self.mpr (fun _ _ => rfl)]
    · intro d hm
      exact ⟨_, rfl, by simp [-List.contains_eq_mem], fun _ => by simp [-List.contains_eq_mem, T_ad_1, e_is_one ht (hd d hm)]⟩
  have hl2 : ((ds.length : Int) ≤ 40) := by omega
  have e1 : itemsD (rowD ds) = some (ds.map deedD) := rfl
  have e2 : buD .len [rowD ds] = some (.int ds.length) := by simp [-List.contains_eq_mem, rowD, buD]
  have e3 : isTy .list (rowD ds) = true := rfl
  have e4 : asBools (ds.map fun _ => PyData.bool true) = some (ds.map fun _ => true) := asBools_map (fun _ => true) ds
  have e5 : (ds.map fun _ => true).all id = true := by simp [-List.contains_eq_mem]
  simp [-List.contains_eq_mem, M_are_deeds, A_are_deeds, e1, e2, e3, hl2, c1, e4]
theorem T_ir_1 : T_is_row "check_tree" = some (.pu M_check_tree) := rfl
theorem T_ir_2 : T_is_row "are_deeds" = some (.pu M_are_deeds) := rfl
theorem e_is_row {t : List Nat} {ds : List Dd} (ht : t ∈ trees) (hd : ∀ d ∈ ds, d.ok t) (hl : ds.length ≤ 40) : M_is_row [treeD t, rowD ds] = .ok (.bool true) := by
  simp [-List.contains_eq_mem, M_is_row, A_is_row, T_ir_1, T_ir_2, e_check_tree ht, e_are_deeds ht hd hl]
theorem T_cr_1 : T_check_row "are_deeds" = some (.pu M_are_deeds) := rfl
theorem e_check_row {t : List Nat} {ds : List Dd} (ht : t ∈ trees) (hd : ∀ d ∈ ds, d.ok t) (hl : ds.length ≤ 40) : M_check_row [treeD t, rowD ds] = .ok .none := by
  simp [-List.contains_eq_mem, M_check_row, A_check_row, T_cr_1, e_are_deeds ht hd hl]
theorem e_check_sight {i : Nat} (h : i < 2) : M_check_sight [.int i] = .ok .none := by
  rcases i with _ | _ | i
  · rfl
  · rfl
  · omega
/-! ### first states, views -/
def stD (s : List Int) : D := .tuple (iL s)
theorem e_opening {t : List Nat} (ht : t ∈ trees) : M_opening [treeD t] = .ok (stD (firstP t)) := by
  have := tree_small ht
  simp [-List.contains_eq_mem, -r_rep, M_opening, A_opening, r_repi (show t.length ≤ 1000 by omega), stD, firstP]
theorem e_lfirst {t : List Nat} (ht : t ∈ trees) : M_law_first [treeD t] = .ok (stD (firstP t)) := by
  have := tree_small ht
  simp [-List.contains_eq_mem, -r_rep, M_law_first, A_law_first, r_repi (show t.length ≤ 1000 by omega), stD, firstP]
theorem T_vo_1 : T_view_of "ticked" = some (.pu M_ticked) := rfl
theorem T_lv_1 : T_law_view "_law_ticked" = some (.pu M_law_ticked) := rfl
def viewP (t : List Nat) (i : Nat) (s : List Int) : D := if i = 0 then stD s else .tuple (nL (tickP t s))
theorem e_view {t : List Nat} {s : List Int} {i : Nat} (ht : t ∈ trees) (hs : s.length = t.length) (hi : i < 2) : M_view_of [treeD t, stD s, .int i] = .ok (viewP t i s) := by
  have e := e_ticked ht hs
  rcases i with _ | _ | i
  · simp [-List.contains_eq_mem, M_view_of, A_view_of, viewP]
  · simp [-List.contains_eq_mem, M_view_of, A_view_of, viewP, T_vo_1, stD, e]
  · omega
theorem e_lview {t : List Nat} {s : List Int} {i : Nat} (ht : t ∈ trees) (hs : s.length = t.length) (hi : i < 2) : M_law_view [treeD t, stD s, .int i] = .ok (viewP t i s) := by
  have e : M_law_ticked [treeD t, .tuple (iL s)] = _ := e_lticked (u := true) ht hs
  rcases i with _ | _ | i
  · simp [-List.contains_eq_mem, M_law_view, A_law_view, viewP]
  · simp [-List.contains_eq_mem, M_law_view, A_law_view, viewP, T_lv_1, stD, e]
  · omega
/-! ### the states along a row -/
theorem loopF_okL {α σ J : Type} {tg : Tg} {b : Env → DS → R Fl} {δ : DS} {h : α → D} (mk : σ → J → Env) (f : σ → α → σ) (P : List α → σ → Prop) (H : ∀ s j x l, P (x :: l) s → P l (f s x) ∧ ∃ ρ1 j', bindT (mk s j) tg (h x) = some ρ1 ∧ b ρ1 δ = .ok (.nx (mk (f s x) j')) δ) : ∀ (l : List α) (s : σ) (j : J), P l s → P [] (l.foldl f s) ∧ ∃ j', loopF tg b (l.map h) (mk s j) δ = .ok (.nx (mk (l.foldl f s) j')) δ
  | [], s, j, hp => ⟨hp, j, rfl⟩
  | x :: l, s, j, hp => by
    obtain ⟨hp1, ρ1, j1, e1, e2⟩ := H s j x l hp
    obtain ⟨h1, j', h2⟩ := loopF_okL mk f P H l (f s x) j1 hp1
    refine ⟨h1, j', ?_⟩
    simp only [List.map_cons, loopF, e1, e2, R.bind_ok]
    exact h2
abbrev Run := List (List Int) × List Int
def Run.all (r : Run) : List (List Int) := r.1 ++ [r.2]
def nextP (w : Wy) (t : List Nat) (r : Run) (d : Dd) : Run := (r.1 ++ [r.2], stepP w t r.2 d)
def runR (w : Wy) (t : List Nat) (ds : List Dd) : Run := ds.foldl (nextP w t) ([], firstP t)
@[simp] theorem st_sc {s : List Int} : scalar (stD s) = false := rfl
def stsD (l : List (List Int)) : D := .list (l.map stD)
theorem atI_last {xs : List D} {y : D} : L2.atI (xs ++ [y]) (-1) = some y := by
  unfold L2.atI L2.ixN
  rw [if_neg (by omega)]
  have h1 : -((xs ++ [y]).length : Int) ≤ (-1) := by simp [-List.contains_eq_mem]; omega
  have h2 : ((-1) + ((xs ++ [y]).length : Int)).toNat = xs.length := by simp [-List.contains_eq_mem]; omega
  rw [if_pos h1, h2]
  simp [-List.contains_eq_mem]
theorem ix_last {r : Run} : ixD (stsD r.all) (.int (-1)) = some (stD r.2) := by
  show L2.atI _ _ = _
  simp only [Run.all, List.map_append, List.map_cons, List.map_nil]
  exact atI_last
def RunOk (w : Wy) (t : List Nat) (l : List Dd) (r : Run) : Prop := (∀ s ∈ r.all, Fine w t s) ∧ (∀ d ∈ l, d.ok t) ∧ r.1.length + l.length ≤ 40
theorem RunOk.next {w : Wy} {t : List Nat} {x : Dd} {l : List Dd} {r : Run} (hw : w.ok) (ht : t ∈ trees) (h : RunOk w t (x :: l) r) : RunOk w t l (nextP w t r x) := by
  obtain ⟨h1, h2, h3⟩ := h
  refine ⟨fun s hs => ?_, fun d hd => h2 d (by simp [-List.contains_eq_mem, hd]), by simp [-List.contains_eq_mem, nextP] at h3 ⊢; omega⟩
  simp only [Run.all, nextP, List.mem_append, List.mem_cons, List.not_mem_nil, or_false] at hs
  rcases hs with hs | rfl
  · exact h1 s (by simpa [Run.all] using hs)
  · exact (h1 r.2 (by simp [-List.contains_eq_mem, Run.all])).step hw ht (h2 x (by simp [-List.contains_eq_mem]))
theorem stsD_app {l : List (List Int)} {s : List Int} : stsD (l ++ [s]) = .list (l.map stD ++ [stD s]) := by simp [-List.contains_eq_mem, stsD]
theorem T_so_1 : T_states_of "opening" = some (.pu M_opening) := rfl
theorem T_so_2 : T_states_of "step" = some (.pu M_step) := rfl
theorem T_ls_1 : T_law_states "_law_first" = some (.pu M_law_first) := rfl
theorem T_ls_2 : T_law_states "_law_step" = some (.pu M_law_step) := rfl
theorem runOk0 {w : Wy} {t : List Nat} {ds : List Dd} (hd : ∀ d ∈ ds, d.ok t) (hl : ds.length ≤ 40) : RunOk w t ds ([], firstP t) := ⟨fun s hs => by simp [-List.contains_eq_mem, Run.all] at hs; subst hs; exact Fine.first, hd, by simpa using hl⟩
theorem e_states_of {w : Wy} {t : List Nat} {ds : List Dd} (hw : w.ok) (ht : t ∈ trees) (hd : ∀ d ∈ ds, d.ok t) (hl : ds.length ≤ 40) : M_states_of [wayD w, treeD t, rowD ds] = .ok (stsD (runR w t ds).all) ∧ RunOk w t [] (runR w t ds) := by
  have key := loopF_okL (h := deedD) (tg := .n 4) (b := exec T_states_of (.sq (.app 3 (.ca "step" (.cons (.v 0) (.cons (.v 1) (.cons (.ix (.v 3) (.neg (.k (.int 1)))) (.cons (.v 4) .nil)))))) .sk)) (δ := none) (fun (r : Run) (j : Slot) => [.va (wayD w), .va (treeD t), .va (rowD ds), .ow (stsD r.all), j]) (nextP w t) (RunOk w t) (fun r j x l h => by
    refine ⟨h.next hw ht, _, .va (deedD x), rfl, ?_⟩
    have e := (e_step (d := x) (s := r.2) hw ht (h.2.1 x (by simp [-List.contains_eq_mem])) (h.1 r.2 (by simp [-List.contains_eq_mem, Run.all])).1.1).1
    have hb : r.1.length + 1 < big := by have := h.2.2; unfold big; omega
    have e2 := ix_last (r := r)
    have e3 : stsD r.all = .list (r.1.map stD ++ [stD r.2]) := stsD_app
    have e4 : stsD (nextP w t r x).all = .list ((r.1.map stD ++ [stD r.2]) ++ [stD (stepP w t r.2 x)]) := by simp [-List.contains_eq_mem, nextP, Run.all, stsD]
    simp [-List.contains_eq_mem, e2, T_so_2, show M_step [wayD w, treeD t, stD r.2, deedD x] = .ok (stD (stepP w t r.2 x)) from e, appR, e3, e4, hb, atI_last, st_sc]) ds ([], firstP t) .no (runOk0 hd hl)
  obtain ⟨h1, j, h2⟩ := key
  refine ⟨runP_ok (δ := none) rfl ?_, h1⟩
  have e1 : itemsD (rowD ds) = some (ds.map deedD) := rfl
  have e2 : stsD (Run.all ([], firstP t)) = .list [stD (firstP t)] := rfl
  rw [e2] at h2
  simp [-List.contains_eq_mem, A_states_of, T_so_1, e_opening ht, e1, h2, runR]
theorem e_lstates {w : Wy} {t : List Nat} {ds : List Dd} (hw : w.ok) (ht : t ∈ trees) (hd : ∀ d ∈ ds, d.ok t) (hl : ds.length ≤ 40) : M_law_states [wayD w, treeD t, rowD ds] = .ok (stsD (runR w t ds).all) := by
  have key := loopF_okL (h := deedD) (tg := .n 4) (b := exec T_law_states (.sq (.app 3 (.ca "_law_step" (.cons (.v 0) (.cons (.v 1) (.cons (.ix (.v 3) (.neg (.k (.int 1)))) (.cons (.v 4) .nil)))))) .sk)) (δ := none) (fun (r : Run) (j : Slot) => [.va (wayD w), .va (treeD t), .va (rowD ds), .ow (stsD r.all), j]) (nextP w t) (RunOk w t) (fun r j x l h => by
    refine ⟨h.next hw ht, _, .va (deedD x), rfl, ?_⟩
    have g := (h.1 r.2 (by simp [-List.contains_eq_mem, Run.all])).1
    have e := e_lstep (d := x) (s := r.2) hw ht (h.2.1 x (by simp [-List.contains_eq_mem])) g.1
    rw [← step_eq hw ht (h.2.1 x (by simp [-List.contains_eq_mem])) g] at e
    have hb : r.1.length + 1 < big := by have := h.2.2; unfold big; omega
    have e2 := ix_last (r := r)
    have e3 : stsD r.all = .list (r.1.map stD ++ [stD r.2]) := stsD_app
    have e4 : stsD (nextP w t r x).all = .list ((r.1.map stD ++ [stD r.2]) ++ [stD (stepP w t r.2 x)]) := by simp [-List.contains_eq_mem, nextP, Run.all, stsD]
    simp [-List.contains_eq_mem, e2, T_ls_2, show M_law_step [wayD w, treeD t, stD r.2, deedD x] = .ok (stD (stepP w t r.2 x)) from e, appR, e3, e4, hb, atI_last, st_sc]) ds ([], firstP t) .no (runOk0 hd hl)
  obtain ⟨h1, j, h2⟩ := key
  refine runP_ok (δ := none) rfl ?_
  have e1 : itemsD (rowD ds) = some (ds.map deedD) := rfl
  have e2 : stsD (Run.all ([], firstP t)) = .list [stD (firstP t)] := rfl
  rw [e2] at h2
  simp [-List.contains_eq_mem, A_law_states, T_ls_1, e_lfirst ht, e1, h2, runR]
end Tk
set_option linter.all false
set_option Elab.async false
set_option maxRecDepth 100000
set_option maxHeartbeats 1000000
namespace Tk
open PySem
section
variable {w : Wy} {t : List Nat} {ds : List Dd}
theorem T_sa_1 : T_states_along "check_way" = some (.pu M_check_way) := rfl
theorem T_sa_2 : T_states_along "check_tree" = some (.pu M_check_tree) := rfl
theorem T_sa_3 : T_states_along "check_row" = some (.pu M_check_row) := rfl
theorem T_sa_4 : T_states_along "states_of" = some (.pu M_states_of) := rfl
theorem e_states_along (hw : w.ok) (ht : t ∈ trees) (hd : ∀ d ∈ ds, d.ok t) (hl : ds.length ≤ 40) : M_states_along [wayD w, treeD t, rowD ds] = .ok (stsD (runR w t ds).all) := by
  simp [-List.contains_eq_mem, M_states_along, A_states_along, T_sa_1, T_sa_2, T_sa_3, T_sa_4, e_check_way hw, e_check_tree ht, e_check_row ht hd hl, (e_states_of hw ht hd hl).1]
theorem T_saf_1 : T_state_after "states_along" = some (.pu M_states_along) := rfl
theorem e_state_after (hw : w.ok) (ht : t ∈ trees) (hd : ∀ d ∈ ds, d.ok t) (hl : ds.length ≤ 40) : M_state_after [wayD w, treeD t, rowD ds] = .ok (stD (runR w t ds).2) := by
  simp [-List.contains_eq_mem, M_state_after, A_state_after, T_saf_1, e_states_along hw ht hd hl, ix_last]
theorem cut_tail {xs : List D} : cut xs (some 1) none = xs.drop 1 := by
  simp only [cut, HT.sIx]
  cases xs with
  | nil => rfl
  | cons x xs =>
    have : (if (1 : Int) < 0 then ((1 : Int) + ((x :: xs).length : Int)).toNat else min (1 : Int).toNat (x :: xs).length) = 1 := by
      rw [if_neg (by decide)]
      simp [-List.contains_eq_mem]
    rw [this]
    simp [-List.contains_eq_mem]
theorem sl_sts {l : List (List Int)} : slD (stsD l) (some 1) none = some (stsD (l.drop 1)) := by
  show some (PyData.list (cut (l.map stD) (some 1) none)) = _
  rw [cut_tail]
  simp [-List.contains_eq_mem, stsD]
theorem T_sh_1 : T_shown "view_of" = some (.pu M_view_of) := rfl
theorem T_sh_2 : T_shown "states_of" = some (.pu M_states_of) := rfl
def viewsP (t : List Nat) (i : Nat) (l : List (List Int)) : D := .list (l.map (viewP t i))
theorem e_shown {i : Nat} (hi : i < 2) (hw : w.ok) (ht : t ∈ trees) (hd : ∀ d ∈ ds, d.ok t) (hl : ds.length ≤ 40) : M_shown [wayD w, treeD t, .int i, rowD ds] = .ok (viewsP t i ((runR w t ds).all.drop 1)) := by
  obtain ⟨h1, h2⟩ := e_states_of hw ht hd hl
  have c1 : compL (.n 4) (evB T_shown (.k (.bool true))) (ev T_shown (.ca "view_of" (.cons (.v 1) (.cons (.v 4) (.cons (.v 2) .nil))))) [.va (wayD w), .va (treeD t), .va (.int i), .va (rowD ds), .no] (((runR w t ds).all.drop 1).map stD) none = .ok (((runR w t ds).all.drop 1).map (viewP t i)) none := by
    rw [compL_ok (h := stD) (fun _ => true) (viewP t i)]
    · rw [List.filter_eq_self.mpr (fun _ _ => rfl)]
    · intro s hs
      have hs : s ∈ (runR w t ds).all := List.mem_of_mem_drop hs
      exact ⟨_, rfl, by simp [-List.contains_eq_mem], fun _ => by simp [-List.contains_eq_mem, T_sh_1, e_view ht (h2.1 s hs).1.1 hi]⟩
  have e1 : itemsD (stsD ((runR w t ds).all.drop 1)) = some (((runR w t ds).all.drop 1).map stD) := rfl
  have e2 : slD (stsD (runR w t ds).all) (some 1) none = some (stsD ((runR w t ds).all.drop 1)) := sl_sts
  obtain ⟨l, hl⟩ : ∃ l, l = (runR w t ds).all.drop 1 := ⟨_, rfl⟩
  rw [← hl] at c1 e1 e2 ⊢
  simp [-List.contains_eq_mem, M_shown, A_shown, T_sh_2, h1, e2, e1, c1, viewsP]
theorem T_vs_1 : T_views_of "check_way" = some (.pu M_check_way) := rfl
theorem T_vs_2 : T_views_of "check_tree" = some (.pu M_check_tree) := rfl
theorem T_vs_3 : T_views_of "check_sight" = some (.pu M_check_sight) := rfl
theorem T_vs_4 : T_views_of "check_row" = some (.pu M_check_row) := rfl
theorem T_vs_5 : T_views_of "shown" = some (.pu M_shown) := rfl
theorem e_views_of {i : Nat} (hi : i < 2) (hw : w.ok) (ht : t ∈ trees) (hd : ∀ d ∈ ds, d.ok t) (hl : ds.length ≤ 40) : M_views_of [wayD w, treeD t, .int i, rowD ds] = .ok (viewsP t i ((runR w t ds).all.drop 1)) := by
  simp [-List.contains_eq_mem, -List.drop_one, M_views_of, A_views_of, T_vs_1, T_vs_2, T_vs_3, T_vs_4, T_vs_5, e_check_way hw, e_check_tree ht, e_check_sight hi, e_check_row ht hd hl, e_shown hi hw ht hd hl]
theorem T_tl_1 : T_ticked_leaves "ticked" = some (.pu M_ticked) := rfl
theorem T_tl_2 : T_ticked_leaves "state_after" = some (.pu M_state_after) := rfl
theorem last_fine (hw : w.ok) (ht : t ∈ trees) (hd : ∀ d ∈ ds, d.ok t) (hl : ds.length ≤ 40) : Fine w t (runR w t ds).2 := (e_states_of hw ht hd hl).2.1 _ (by simp [-List.contains_eq_mem, Run.all])
theorem e_ticked_leaves (hw : w.ok) (ht : t ∈ trees) (hd : ∀ d ∈ ds, d.ok t) (hl : ds.length ≤ 40) : M_ticked_leaves [wayD w, treeD t, rowD ds] = .ok (.tuple (nL (tickP t (runR w t ds).2))) := by
  have e : M_ticked [treeD t, stD (runR w t ds).2] = _ := e_ticked ht (last_fine hw ht hd hl).1.1
  simp [-List.contains_eq_mem, M_ticked_leaves, A_ticked_leaves, T_tl_1, T_tl_2, e_state_after hw ht hd hl, e]
/-! ### misfits -/
def misB (t : List Nat) (s : List Int) (b : Nat) : Bool := !(ch t b).isEmpty && !(toldP "half" ((ch t b).map fun k => s.getD k 0) == s.getD b 0)
theorem e_told_half {vs : List Int} : M_told_by [.tuple [.str "own", .str "tick", .str "half", .int 0, .int 0, .int 0], .list (iL vs)] = .ok (.int (toldP "half" vs)) := e_told_by (w := ⟨"own", "tick", "half", 0, 0, 0⟩) sh_half
theorem eqv_i0 {l : List Int} : PyData.eqv (.list (iL l)) (.list []) = l.isEmpty := by cases l <;> rfl
theorem T_mf_1 : T_misfits "state_after" = some (.pu M_state_after) := rfl
theorem T_mf_2 : T_misfits "children_of" = some (.pu M_children_of) := rfl
theorem T_mf_3 : T_misfits "told_by" = some (.pu M_told_by) := rfl
theorem foldl_filter {p : Nat → Bool} : ∀ (l acc : List Nat), l.foldl (fun a b => if p b then a ++ [b] else a) acc = acc ++ l.filter p
  | [], acc => by simp [-List.contains_eq_mem]
  | x :: l, acc => by
    rw [List.foldl_cons, foldl_filter l, List.filter_cons]
    split <;> simp [-List.contains_eq_mem]
theorem nL_snoc {l : List Nat} {b : Nat} : nL l ++ [.int (b : Int)] = nL (l ++ [b]) := by simp [-List.contains_eq_mem, nL, nI]
theorem e_misfits (hw : w.ok) (ht : t ∈ trees) (hd : ∀ d ∈ ds, d.ok t) (hl : ds.length ≤ 40) : M_misfits [wayD w, treeD t, rowD ds] = .ok (.list (nL ((List.range t.length).filter (misB t (runR w t ds).2)))) := by
  have ht5 := tree_small ht
  have hr : n1 (.int (t.length : Int)) = some (nL (List.range t.length)) := r_n1n (by omega)
  have hs := (last_fine hw ht hd hl).1.1
  have e0 := e_state_after hw ht hd hl
  obtain ⟨s, es⟩ : ∃ s, s = (runR w t ds).2 := ⟨_, rfl⟩
  rw [← es] at hs e0 ⊢
  have key := loopF_okL (h := nI) (tg := .n 5) (b := exec T_misfits (.sq (.set 6 (.co (.ix (.v 3) (.v 7)) (.n 7) (.sq (.ca "children_of" (.cons (.v 1) (.cons (.v 5) .nil)))) (.k (.bool true))))
  (.sq (.ifs (.an (.cm .ne (.v 6) (.ls .nil)) (.cm .ne (.ca "told_by" (.cons (.tu (.cons (.k (.str "own")) (.cons (.k (.str "tick")) (.cons (.k (.str "half")) (.cons (.k (.int 0)) (.cons (.k (.int 0)) (.cons (.k (.int 0)) .nil))))))) (.cons (.v 6) .nil))) (.ix (.v 3) (.v 5)))) (.sq (.app 4 (.v 5))
  .sk) .sk)
  .sk))) (δ := none) (fun (r : List Nat) (j : Slot × Slot) => [.va (wayD w), .va (treeD t), .va (rowD ds), .va (stD s), .ow (.list (nL r)), j.1, j.2, .no]) (fun a b => if misB t s b then a ++ [b] else a) (fun l a => a.length + l.length ≤ 5 ∧ ∀ b ∈ l, b < t.length) (fun a j x l h => by
    obtain ⟨ha, hlt⟩ := h
    have hx : x < t.length := hlt x (by simp [-List.contains_eq_mem])
    refine ⟨⟨by split <;> simp [-List.contains_eq_mem] at ha ⊢ <;> omega, fun b hb => hlt b (by simp [-List.contains_eq_mem, hb])⟩, ?_⟩
    obtain ⟨vs, hvs⟩ : ∃ vs, vs = (ch t x).map fun k => s.getD k 0 := ⟨_, rfl⟩
    refine ⟨_, (.va (.int x), .ow (.list (iL vs))), rfl, ?_⟩
    have c1 : compL (.n 7) (evB T_misfits (.k (.bool true))) (ev T_misfits (.ix (.v 3) (.v 7))) [.va (wayD w), .va (treeD t), .va (rowD ds), .va (stD s), .ow (.list (nL a)), .va (.int x), j.2, .no] (nL (ch t x)) none = .ok (iL vs) none := by
      rw [comp_alln (fun k => .int (s.getD k 0)) (by simp [-List.contains_eq_mem]) (by simp [-List.contains_eq_mem]) (fun k hk => by simp [-List.contains_eq_mem, stD, atI_nat (show k < s.length by rw [hs]; exact ch_lt hk)])]
      simp [-List.contains_eq_mem, iL, hvs]
    have h0 : ixD (stD s) (.int (x : Int)) = some (.int (s.getD x 0)) := atI_nat (by omega)
    have hm : misB t s x = (!vs.isEmpty && !(toldP "half" vs == s.getD x 0)) := by simp only [misB, ← hvs]; rw [hvs]; simp [-List.contains_eq_mem]
    obtain ⟨y, hy⟩ : ∃ y, y = s.getD x 0 := ⟨_, rfl⟩
    rw [← hy] at h0 hm
    have hbg : a.length < big := by simp [-List.contains_eq_mem] at ha; unfold big; omega
    rw [hm]
    cases g1 : vs.isEmpty <;> cases g2 : toldP "half" vs == y <;> simp [-List.contains_eq_mem, nI, T_mf_2, T_mf_3, e_children ht hx, c1, eqv_i0, show SeqAt.shaped (.list []) = true from rfl, g1, g2, e_told_half, h0, appR, hbg, nL_snoc])
      (List.range t.length) [] (.no, .no) ⟨by simp [-List.contains_eq_mem]; omega, by simp [-List.contains_eq_mem]⟩
  obtain ⟨h1, ⟨j1, j2⟩, h2⟩ := key
  change loopF _ _ (nL _) _ _ = _ at h2
  rw [foldl_filter] at h2
  refine runP_ok (δ := none) rfl ?_
  simp only [nL, List.map_nil] at h2
  simp only [← show ∀ l : List Nat, nL l = l.map nI from fun _ => rfl] at h2
  simp [-List.contains_eq_mem, -r_n1, A_misfits, T_mf_1, e0, hr, h2]
end
end Tk
set_option linter.all false
set_option Elab.async false
set_option maxRecDepth 100000
set_option maxHeartbeats 1000000
namespace Tk
open PySem
/-! ### the draws -/
theorem j_dc {F : Tab} {f : Str} {i : Nat} {es : Es} {ρ : Env} {δ : DS} {ds : List D} {q q' : List Int × Int} {g : List D → List Int × Int → O (D × (List Int × Int))} {d : D} (hi : ρ[i]? = some .dr) (hes : evs F es ρ δ = .ok ds (some q)) (hF : F f = some (.dw g)) (hg : g ds q = .ok (d, q')) : ev F (.dc f i es) ρ δ = .ok d (some q') := by
  simp only [ev, hi, hes, R.bind_ok, hF, hg]
theorem runD_ok {F : Tab} {m n : Nat} {b : S} {ds : List D} {q q' : List Int × Int} {d : D} (hl : ds.length = m) (he : exec F b (.dr :: enter (n - 1) ds) (some q) = .ok (.rt d) (some q')) : runD F m n b ds q = .ok (d, q') := by
  simp only [runD, hl, he, outD]
  simp [-List.contains_eq_mem]
theorem atI_in {xs : List D} {r : Int} (h0 : 0 ≤ r) (h : r < xs.length) : ∃ d, L2.atI xs r = some d ∧ d ∈ xs := by
  have h2 : r.toNat < xs.length := by omega
  refine ⟨xs[r.toNat], ?_, List.getElem_mem _⟩
  unfold L2.atI L2.ixN
  rw [if_pos h0, if_pos h]
  simp [-List.contains_eq_mem, h2]
theorem T_lp_1 : T_law_pick "_law_draw" = some (.dw M_law_draw) := rfl
theorem e_pick {xs : List D} {q : List Int × Int} (h0 : xs ≠ []) (h1 : xs.length ≤ 1000) (hq : q.1 ≠ []) : ∃ d q', M_law_pick [.list xs] q = .ok (d, q') ∧ d ∈ xs ∧ q'.1 ≠ [] := by
  obtain ⟨ns, n⟩ := q
  have hl : 0 < xs.length := List.length_pos_iff.mpr h0
  obtain ⟨r, ns', n', e, r0, r1, hn⟩ := draw_ok (n := n) (show (0 : Int) < xs.length by omega) (by omega) hq
  obtain ⟨d, e2, hd⟩ := atI_in r0 r1
  refine ⟨d, (ns', n'), runD_ok rfl ?_, hd, hn⟩
  have e3 : ev T_law_pick (.dc "_law_draw" 0 (.cons (.bu .len (.cons (.v 1) .nil)) .nil)) [.dr, .va (.list xs)] (some (ns, n)) = .ok (.int r) (some (ns', n')) := j_dc rfl (by simp [-List.contains_eq_mem]) T_lp_1 e
  simp [-List.contains_eq_mem, A_law_pick, e3, e2]
def All2 (Q : D → D → Prop) : List D → List D → Prop
  | [], [] => True
  | x :: xs, y :: ys => Q x y ∧ All2 Q xs ys
  | _, _ => False
theorem compL_ex {tg : Tg} {c : Env → DS → R Bool} {f : Env → DS → R D} {ρ : Env} (G : DS → Prop) (Q : D → D → Prop) : ∀ (xs : List D) (δ : DS), G δ → (∀ x ∈ xs, ∀ δ, G δ → ∃ ρ1, bindT ρ tg x = some ρ1 ∧ c ρ1 δ = .ok true δ ∧ ∃ y δ', f ρ1 δ = .ok y δ' ∧ G δ' ∧ Q x y) → ∃ ys δ', compL tg c f ρ xs δ = .ok ys δ' ∧ G δ' ∧ All2 Q xs ys
  | [], δ, g, _ => ⟨[], δ, rfl, g, trivial⟩
  | x :: xs, δ, g, H => by
    obtain ⟨ρ1, e1, e2, y, δ1, e3, g1, hq⟩ := H x (by simp [-List.contains_eq_mem]) δ g
    obtain ⟨ys, δ2, e4, g2, a⟩ := compL_ex G Q xs δ1 g1 fun x hx => H x (by simp [-List.contains_eq_mem, hx])
    exact ⟨y :: ys, δ2, by simp [-List.contains_eq_mem, compL, e1, e2, e3, e4], g2, hq, a⟩
def GoodQ : DS → Prop
  | some q => q.1 ≠ []
  | none => False
theorem x_c0 {F : Tab} {ρ : Env} {δ : DS} {f : Str} {g : List D → O D} (h : F f = some (.pu g)) : ev F (.c0 f) ρ δ = noEr (R.ofO δ (g [])) := by simp only [ev, h]
theorem T_lw_1 : T_law_way "_law_pick" = some (.dw M_law_pick) := rfl
theorem T_lw_2 : T_law_way "_law_words" = some (.pu M_law_words) := rfl
theorem e_words : M_law_words [] = .ok (.list [.list [.str "all", .str "own"], .list [.str "tick", .str "clear"], .list [.str "half", .str "any", .str "every", .str "none"], .list [.int 0, .int 1], .list [.int 0, .int 1], .list [.int 0, .int 2]]) := rfl
theorem e_way {q : List Int × Int} (hq : q.1 ≠ []) : ∃ w q', M_law_way [] q = .ok (wayD w, q') ∧ w.ok ∧ q'.1 ≠ [] := by
  obtain ⟨ys, δ', e, g, a⟩ := compL_ex (tg := .n 1) (c := evB T_law_way (.k (.bool true))) (f := ev T_law_way (.dc "_law_pick" 0 (.cons (.v 1) .nil))) (ρ := [.dr, .no]) GoodQ (fun x y => ∃ xs, x = .list xs ∧ y ∈ xs) [.list [.str "all", .str "own"], .list [.str "tick", .str "clear"], .list [.str "half", .str "any", .str "every", .str "none"], .list [.int 0, .int 1], .list [.int 0, .int 1], .list [.int 0, .int 2]] (some q) hq (by
    intro x hx δ g
    obtain ⟨xs, rfl, h0, h1⟩ : ∃ xs, x = .list xs ∧ xs ≠ [] ∧ xs.length ≤ 1000 := by
      simp only [List.mem_cons, List.not_mem_nil, or_false] at hx
      rcases hx with rfl | rfl | rfl | rfl | rfl | rfl <;> exact ⟨_, rfl, by simp [-List.contains_eq_mem], by simp [-List.contains_eq_mem]⟩
    cases δ with
    | none => exact g.elim
    | some q =>
      obtain ⟨d, q', e, hd, hq'⟩ := e_pick h0 h1 g
      exact ⟨_, rfl, by simp [-List.contains_eq_mem], d, some q', j_dc rfl (by simp [-List.contains_eq_mem]) T_lw_1 e, hq', xs, rfl, hd⟩)
  cases δ' with
  | none => exact g.elim
  | some q' =>
    rcases ys with _ | ⟨y1, _ | ⟨y2, _ | ⟨y3, _ | ⟨y4, _ | ⟨y5, _ | ⟨y6, _ | ⟨y7, ys⟩⟩⟩⟩⟩⟩⟩ <;> simp only [All2, and_false, false_and] at a
    obtain ⟨⟨_, e1, m1⟩, ⟨_, e2, m2⟩, ⟨_, e3, m3⟩, ⟨_, e4, m4⟩, ⟨_, e5, m5⟩, ⟨_, e6, m6⟩, _⟩ := a
    injection e1 with e1; injection e2 with e2; injection e3 with e3; injection e4 with e4; injection e5 with e5; injection e6 with e6
    subst e1 e2 e3 e4 e5 e6
    have two : ∀ {y : D} {a b : Str}, y ∈ [PyData.str a, .str b] → ∃ c, y = .str c ∧ (c = a ∨ c = b) := fun {y a b} h => by
      simp only [List.mem_cons, List.not_mem_nil, or_false] at h
      rcases h with rfl | rfl
      · exact ⟨_, rfl, .inl rfl⟩
      · exact ⟨_, rfl, .inr rfl⟩
    have twoi : ∀ {y : D} {a b : Int}, y ∈ [PyData.int a, .int b] → ∃ c, y = .int c ∧ (c = a ∨ c = b) := fun {y a b} h => by
      simp only [List.mem_cons, List.not_mem_nil, or_false] at h
      rcases h with rfl | rfl
      · exact ⟨_, rfl, .inl rfl⟩
      · exact ⟨_, rfl, .inr rfl⟩
    obtain ⟨c1, rfl, k1⟩ := two m1
    obtain ⟨c2, rfl, k2⟩ := two m2
    obtain ⟨c3, rfl, k3⟩ : ∃ c, y3 = .str c ∧ (c = "half" ∨ c = "any" ∨ c = "every" ∨ c = "none") := by
      simp only [List.mem_cons, List.not_mem_nil, or_false] at m3
      rcases m3 with rfl | rfl | rfl | rfl
      · exact ⟨_, rfl, .inl rfl⟩
      · exact ⟨_, rfl, .inr (.inl rfl)⟩
      · exact ⟨_, rfl, .inr (.inr (.inl rfl))⟩
      · exact ⟨_, rfl, .inr (.inr (.inr rfl))⟩
    obtain ⟨c4, rfl, k4⟩ := twoi m4
    obtain ⟨c5, rfl, k5⟩ := twoi m5
    obtain ⟨c6, rfl, k6⟩ := twoi m6
    refine ⟨⟨c1, c2, c3, c4, c5, c6⟩, q', runD_ok rfl ?_, ⟨k1, k2, k3, k4, k5, k6⟩, g⟩
    simp [-List.contains_eq_mem, A_law_way, x_c0 T_lw_2, e_words, e, wayD]
/-! ### a tree is drawn -/
def seqs : Nat → List (List Nat)
  | 0 => [[0]]
  | n + 1 => (seqs n).flatMap fun l => (List.range (l.getLastD 0 + 2)).map fun d => l ++ [d]
theorem seqs_len {l : List Nat} : ∀ {n : Nat}, l ∈ seqs n → l.length = n + 1
  | 0, h => by simp [-List.contains_eq_mem, seqs] at h; subst h; rfl
  | n + 1, h => by
    simp only [seqs, List.mem_flatMap, List.mem_map, List.mem_range] at h
    obtain ⟨l', h1, d, _, rfl⟩ := h
    simp [-List.contains_eq_mem, seqs_len h1]
theorem seqs_next {l : List Nat} {n d : Nat} (h : l ∈ seqs n) (hd : d < l.getLastD 0 + 2) : l ++ [d] ∈ seqs (n + 1) := by
  simp only [seqs, List.mem_flatMap, List.mem_map, List.mem_range]
  exact ⟨l, h, d, hd, rfl⟩
def maxN (l : List Nat) : Int := match l with
  | [] => 0
  | x :: xs => maxI x (xs.map Int.ofNat)
theorem seqsB : [1, 2, 3, 4].all (fun n => (seqs n).all fun l => decide (l.getLastD 0 ≤ 5) && if 0 < maxN l then trees.contains l else trees.contains (l.dropLast ++ [1])) = true := by decide +kernel
theorem seqsB0 : [0, 1, 2, 3, 4].all (fun n => (seqs n).all fun l => decide (l.getLastD 0 ≤ 5)) = true := by decide +kernel
theorem asInts_nL : ∀ (l : List Nat), asInts (nL l) = some (l.map Int.ofNat)
  | [] => rfl
  | x :: l => by
    have := asInts_nL l
    simp only [nL, List.map_cons, nI, asInts] at this ⊢
    rw [this]
    rfl
theorem r_max1 {l : List Nat} (h : l ≠ []) : buD .max1 [.list (nL l)] = some (.int (maxN l)) := by
  cases l with
  | nil => exact absurd rfl h
  | cons x l => simp only [buD, asInts_nL, List.map_cons, maxN]; rfl
theorem cut_init {xs : List D} : cut xs none (some (-1)) = xs.dropLast := by
  simp only [cut, HT.sIx]
  rw [if_pos (by decide)]
  simp only [List.drop_zero, Nat.sub_zero, List.dropLast_eq_take]
  congr 1
  omega
theorem last_nL {l : List Nat} (h : l ≠ []) : L2.atI (nL l) (-1) = some (.int (l.getLastD 0 : Nat)) := by
  obtain ⟨a, b, rfl⟩ : ∃ a b, l = a ++ [b] := ⟨l.dropLast, l.getLast h, (List.dropLast_concat_getLast h).symm⟩
  have : nL (a ++ [b]) = nL a ++ [.int (b : Int)] := by simp [-List.contains_eq_mem, nL, nI]
  rw [this, atI_last]
  simp [-List.contains_eq_mem]
theorem loopW_ex {c : Env → DS → R Bool} {b : Env → DS → R Fl} (Inv : Nat → Env → DS → Prop) (Post : Env → DS → Prop) (H : ∀ n ρ δ, Inv n ρ δ → (c ρ δ = .ok false δ ∧ Post ρ δ) ∨ ∃ m, n = m + 1 ∧ c ρ δ = .ok true δ ∧ ∃ ρ' δ', b ρ δ = .ok (.nx ρ') δ' ∧ Inv m ρ' δ') : ∀ (fuel n : Nat) (ρ : Env) (δ : DS), n < fuel → Inv n ρ δ → ∃ ρ' δ', loopW c b fuel ρ δ = .ok (.nx ρ') δ' ∧ Post ρ' δ'
  | 0, n, ρ, δ, h, _ => by omega
  | fuel + 1, n, ρ, δ, h, i => by
    rw [loopW_s]
    rcases H n ρ δ i with ⟨e, p⟩ | ⟨m, rfl, e, ρ1, δ1, e2, i2⟩
    · exact ⟨ρ, δ, by simp [-List.contains_eq_mem, e], p⟩
    · obtain ⟨ρ', δ', e3, p⟩ := loopW_ex Inv Post H fuel m ρ1 δ1 (by omega) i2
      exact ⟨ρ', δ', by simp [-List.contains_eq_mem, e, e2, r_flnx, e3], p⟩
theorem T_lt_1 : T_law_tree "_law_draw" = some (.dw M_law_draw) := rfl
theorem e_draw {limit : Int} {q : List Int × Int} (h1 : 0 < limit) (h2 : limit < 1000) (hq : q.1 ≠ []) : ∃ (r : Nat) (q' : List Int × Int), M_law_draw [.int limit] q = .ok (.int r, q') ∧ (r : Int) < limit ∧ q'.1 ≠ [] := by
  obtain ⟨ns, n⟩ := q
  obtain ⟨r, ns', n', e, r0, r1, hn⟩ := draw_ok (n := n) h1 (by omega) hq
  exact ⟨r.toNat, (ns', n'), by rw [e, Int.toNat_of_nonneg r0], by omega, hn⟩
theorem e_tree {q : List Int × Int} (hq : q.1 ≠ []) : ∃ t q', M_law_tree [.int 5] q = .ok (treeD t, q') ∧ t ∈ trees ∧ q'.1 ≠ [] := by
  obtain ⟨a, q1, e1, a1, hq1⟩ := e_draw (limit := 4) (by decide) (by decide) hq
  obtain ⟨b, q2, e2, b1, hq2⟩ := e_draw (limit := 4) (by decide) (by decide) hq1
  obtain ⟨m, hm, hm1, hm2⟩ : ∃ m : Nat, (2 + (if (b : Int) > (a : Int) then (b : Int) else (a : Int))) = (m : Int) ∧ 2 ≤ m ∧ m ≤ 5 := by
    split
    · exact ⟨2 + b, by omega, by omega, by omega⟩
    · exact ⟨2 + a, by omega, by omega, by omega⟩
  have d1 : ev T_law_tree (.dc "_law_draw" 0 (.cons (.bin .sub (.v 1) (.k (.int 1))) .nil)) [.dr, .va (.int 5), .no, .no] (some q) = .ok (.int a) (some q1) := j_dc rfl (by simp [-List.contains_eq_mem]) T_lt_1 e1
  have d2 : ev T_law_tree (.dc "_law_draw" 0 (.cons (.bin .sub (.v 1) (.k (.int 1))) .nil)) [.dr, .va (.int 5), .no, .no] (some q1) = .ok (.int b) (some q2) := j_dc rfl (by simp [-List.contains_eq_mem]) T_lt_1 e2
  have s1 : exec T_law_tree (.sets [2, 3] (.cons (.bin .add (.k (.int 2)) (.bu .max2 (.cons (.dc "_law_draw" 0 (.cons (.bin .sub (.v 1) (.k (.int 1))) .nil)) (.cons (.dc "_law_draw" 0 (.cons (.bin .sub (.v 1) (.k (.int 1))) .nil)) .nil)))) (.cons (.ls (.cons (.k (.int 0)) .nil)) .nil))) [.dr, .va (.int 5), .no, .no] (some q) = .ok (.nx [.dr, .va (.int 5), .va (.int m), .ow (.list (nL [0]))]) (some q2) := by
    have mx : buD .max2 [.int (a : Int), .int (b : Int)] = some (.int (if (b : Int) > (a : Int) then (b : Int) else (a : Int))) := rfl
    obtain ⟨z, hz⟩ : ∃ z, z = (if (b : Int) > (a : Int) then (b : Int) else (a : Int)) := ⟨_, rfl⟩
    rw [← hz] at mx hm
    simp [-List.contains_eq_mem, d1, d2, mx, hm, nL, nI]
  have s2 := loopW_ex (c := evB T_law_tree (.cm .lt (.bu .len (.cons (.v 3) .nil)) (.v 2))) (b := exec T_law_tree (.sq (.app 3 (.dc "_law_draw" 0 (.cons (.bin .add (.ix (.v 3) (.neg (.k (.int 1)))) (.k (.int 2))) .nil))) .sk))
    (fun n ρ δ => ∃ l k q, l ∈ seqs k ∧ k + 1 + n = m ∧ δ = some q ∧ q.1 ≠ [] ∧ ρ = [.dr, .va (.int 5), .va (.int m), .ow (.list (nL l))]) (fun ρ δ => ∃ l q, l ∈ seqs (m - 1) ∧ δ = some q ∧ q.1 ≠ [] ∧ ρ = [.dr, .va (.int 5), .va (.int m), .ow (.list (nL l))]) (by
      rintro n ρ δ ⟨l, k, q, hl, hk, rfl, hq, rfl⟩
      have hlen := seqs_len hl
      have hne : l ≠ [] := fun z => by rw [z] at hlen; simp [-List.contains_eq_mem] at hlen
      rcases n with _ | n
      · refine .inl ⟨?_, l, q, by rw [show m - 1 = k by omega]; exact hl, rfl, hq, rfl⟩
        have : ¬ ((l.length : Int) < (m : Int)) := by omega
        simp [-List.contains_eq_mem, this]
      · refine .inr ⟨n, rfl, ?_, ?_⟩
        · have : (l.length : Int) < (m : Int) := by omega
          simp [-List.contains_eq_mem]
          omega
        · have hlast : l.getLastD 0 ≤ 5 := by
            have h := List.all_eq_true.mp seqsB0 k (by simp [-List.contains_eq_mem]; omega)
            exact of_decide_eq_true (List.all_eq_true.mp h l hl)
          obtain ⟨d, q', e, hd, hq'⟩ := e_draw (limit := (l.getLastD 0 : Nat) + 2) (by omega) (by omega) hq
          have hla := last_nL hne
          have hnx := fun hd => seqs_next (d := d) hl hd
          obtain ⟨z, hz⟩ : ∃ z, z = l.getLastD 0 := ⟨_, rfl⟩
          rw [← hz] at hla e hd hnx
          have ix : ev T_law_tree (.dc "_law_draw" 0 (.cons (.bin .add (.ix (.v 3) (.neg (.k (.int 1)))) (.k (.int 2))) .nil)) [.dr, .va (.int 5), .va (.int m), .ow (.list (nL l))] (some q) = .ok (.int d) (some q') := j_dc (ds := [.int ((z : Nat) + 2)]) rfl (by simp [-List.contains_eq_mem, hla]) T_lt_1 e
          refine ⟨[.dr, .va (.int 5), .va (.int m), .ow (.list (nL (l ++ [d])))], some q', ?_, l ++ [d], k + 1, q', hnx (by omega), by omega, rfl, hq', rfl⟩
          have hb : l.length < big := by unfold big; omega
          simp [-List.contains_eq_mem, ix, appR, hb, nL_snoc]) 100000 (m - 1) [.dr, .va (.int 5), .va (.int m), .ow (.list (nL [0]))] (some q2) (by omega) ⟨[0], 0, q2, by simp [-List.contains_eq_mem, seqs], by omega, rfl, hq2, rfl⟩
  obtain ⟨ρ', δ', e3, l, q3, hl, rfl, hq3, rfl⟩ := s2
  have hlen := seqs_len hl
  have hne : l ≠ [] := fun z => by rw [z] at hlen; simp [-List.contains_eq_mem] at hlen
  have chk := List.all_eq_true.mp (List.all_eq_true.mp seqsB (m - 1) (by simp [-List.contains_eq_mem]; omega)) l hl
  simp only [Bool.and_eq_true] at chk
  have chk := chk.2
  by_cases hx : 0 < maxN l
  · rw [if_pos hx] at chk
    refine ⟨l, q3, runD_ok rfl ((seq_nx s1).trans ?_), by simpa [List.contains_eq_mem] using chk, hq3⟩
    simp [-List.contains_eq_mem, -sx_app, e3, r_max1 hne, hx, treeD]
  · rw [if_neg hx] at chk
    refine ⟨l.dropLast ++ [1], q3, runD_ok rfl ((seq_nx s1).trans ?_), by simpa [List.contains_eq_mem] using chk, hq3⟩
    have sl : slD (.list (nL l)) none (some (-1)) = some (.list (nL l.dropLast)) := by
      show some (PyData.list (cut (nL l) none (some (-1)))) = _
      rw [cut_init]
      simp [-List.contains_eq_mem, nL, List.map_dropLast]
    have hb : l.length - 1 + 1 ≤ big := by unfold big; omega
    simp [-List.contains_eq_mem, -sx_app, e3, r_max1 hne, hx, treeD, sl, hb]
    simp [-List.contains_eq_mem, nL, nI]
end Tk
set_option linter.all false
set_option Elab.async false
set_option maxRecDepth 100000
set_option maxHeartbeats 1000000
namespace Tk
open PySem
def clicksP (t : List Nat) : List Dd := (List.range t.length).map .click
def deedsP (t : List Nat) : List Dd := clicksP t ++ [.all, .none, .turn]
theorem clicksP_ok {t : List Nat} {d : Dd} (h : d ∈ clicksP t) : d.ok t := by
  simp only [clicksP, List.mem_map, List.mem_range] at h
  obtain ⟨b, hb, rfl⟩ := h
  exact hb
theorem deedsP_ok {t : List Nat} {d : Dd} (h : d ∈ deedsP t) : d.ok t := by
  simp only [deedsP, List.mem_append, List.mem_cons, List.not_mem_nil, or_false] at h
  rcases h with h | rfl | rfl | rfl
  · exact clicksP_ok h
  all_goals trivial
theorem clicks_comp {F : Tab} {ρ : Env} {δ : DS} {i : Nat} {t : List Nat} (hi : i < ρ.length) : compL (.n i) (evB F (.k (.bool true))) (ev F (.tu (.cons (.k (.str "click")) (.cons (.v i) .nil)))) ρ (nL (List.range t.length)) δ = .ok ((clicksP t).map deedD) δ := by
  rw [comp_alln (fun k => deedD (.click k)) hi (by simp [-List.contains_eq_mem]) (fun k hk => by simp [-List.contains_eq_mem, hi, deedD])]
  simp [-List.contains_eq_mem, clicksP, Function.comp_def]
theorem e_ldeeds {t : List Nat} (ht : t ∈ trees) : M_law_deeds [treeD t] = .ok (rowD (deedsP t)) := by
  have ht5 := tree_small ht
  have hr : n1 (.int (t.length : Int)) = some (nL (List.range t.length)) := r_n1n (by omega)
  have c1 := clicks_comp (F := T_law_deeds) (ρ := [.va (treeD t), .no]) (δ := none) (i := 1) (t := t) (by simp [-List.contains_eq_mem])
  have hb : (clicksP t).length + 3 ≤ big := by simp [-List.contains_eq_mem, clicksP]; unfold big; omega
  simp [-List.contains_eq_mem, -r_n1, M_law_deeds, A_law_deeds, hr, c1, hb]
  simp [-List.contains_eq_mem, rowD, deedsP, deedD]
theorem e_deeds {t : List Nat} (ht : t ∈ trees) : M_deeds_of [treeD t] = .ok (rowD (deedsP t)) := by
  have ht5 := tree_small ht
  have hr : n1 (.int (t.length : Int)) = some (nL (List.range t.length)) := r_n1n (by omega)
  have c1 := clicks_comp (F := T_deeds_of) (ρ := [.va (treeD t), .no, .no]) (δ := none) (i := 1) (t := t) (by simp [-List.contains_eq_mem])
  have c2 : compL (.n 2) (evB T_deeds_of (.k (.bool true))) (ev T_deeds_of (.tu (.cons (.v 2) .nil))) [.va (treeD t), .no, .no] [.str "all", .str "none", .str "turn"] none = .ok [deedD .all, deedD .none, deedD .turn] none := by
    simp [-List.contains_eq_mem, compL, deedD]
  have s1 : slD (.tuple [(.str "click"), (.str "all"), (.str "none"), (.str "turn")]) (some 1) none = some (.tuple [.str "all", .str "none", .str "turn"]) := rfl
  have hb : (clicksP t).length + 3 ≤ big := by simp [-List.contains_eq_mem, clicksP]; unfold big; omega
  simp [-List.contains_eq_mem, -r_n1, M_deeds_of, A_deeds_of, hr, c1, s1, c2, hb]
  simp [-List.contains_eq_mem, rowD, deedsP]
theorem T_ald_1 : T_all_deeds "check_tree" = some (.pu M_check_tree) := rfl
theorem T_ald_2 : T_all_deeds "deeds_of" = some (.pu M_deeds_of) := rfl
theorem e_all_deeds {t : List Nat} (ht : t ∈ trees) : M_all_deeds [treeD t] = .ok (rowD (deedsP t)) := by
  simp [-List.contains_eq_mem, M_all_deeds, A_all_deeds, T_ald_1, T_ald_2, e_check_tree ht, e_deeds ht]
theorem loopF_ex {tg : Tg} {b : Env → DS → R Fl} (Inv : List D → Env → DS → Prop) (H : ∀ x xs ρ δ, Inv (x :: xs) ρ δ → ∃ ρ1 ρ' δ', bindT ρ tg x = some ρ1 ∧ b ρ1 δ = .ok (.nx ρ') δ' ∧ Inv xs ρ' δ') : ∀ (xs : List D) (ρ : Env) (δ : DS), Inv xs ρ δ → ∃ ρ' δ', loopF tg b xs ρ δ = .ok (.nx ρ') δ' ∧ Inv [] ρ' δ'
  | [], ρ, δ, i => ⟨ρ, δ, rfl, i⟩
  | x :: xs, ρ, δ, i => by
    obtain ⟨ρ1, ρ', δ', e1, e2, i2⟩ := H x xs ρ δ i
    obtain ⟨ρ2, δ2, e3, i3⟩ := loopF_ex Inv H xs ρ' δ' i2
    exact ⟨ρ2, δ2, by simp only [loopF, e1, e2, R.bind_ok]; exact e3, i3⟩
theorem T_lr_1 : T_law_row "_law_draw" = some (.dw M_law_draw) := rfl
theorem T_lr_2 : T_law_row "_law_pick" = some (.dw M_law_pick) := rfl
theorem T_lr_3 : T_law_row "_law_deeds" = some (.pu M_law_deeds) := rfl
theorem e_row {t : List Nat} {L : Nat} {q : List Int × Int} (ht : t ∈ trees) (hL : L ≤ 40) (hq : q.1 ≠ []) : ∃ ds q', M_law_row [treeD t, .int L] q = .ok (rowD ds, q') ∧ (∀ d ∈ ds, d.ok t) ∧ ds.length ≤ L ∧ q'.1 ≠ [] := by
  have ht5 := tree_small ht
  have hr : n1 (.int (t.length : Int)) = some (nL (List.range t.length)) := r_n1n (by omega)
  obtain ⟨m, q1, e1, hm, hq1⟩ := e_draw (limit := (L : Int) + 1) (by omega) (by omega) hq
  have c1 := clicks_comp (F := T_law_row) (ρ := [.dr, .va (treeD t), .va (.int L), .no, .no, .no, .no]) (δ := some q) (i := 4) (t := t) (by simp [-List.contains_eq_mem])
  have s1 : exec T_law_row (.set 3 (.co (.tu (.cons (.k (.str "click")) (.cons (.v 4) .nil))) (.n 4) (.r1 (.bu .len (.cons (.v 1) .nil))) (.k (.bool true)))) [.dr, .va (treeD t), .va (.int L), .no, .no, .no, .no] (some q) = .ok (.nx [.dr, .va (treeD t), .va (.int L), .ow (rowD (clicksP t)), .no, .no, .no]) (some q) := by
    simp [-List.contains_eq_mem, -r_n1, hr, c1, rowD]
  have s2 : exec T_law_row (.set 5 (.ls .nil)) [.dr, .va (treeD t), .va (.int L), .ow (rowD (clicksP t)), .no, .no, .no] (some q) = .ok (.nx [.dr, .va (treeD t), .va (.int L), .ow (rowD (clicksP t)), .no, .ow (rowD []), .no]) (some q) := by
    simp [-List.contains_eq_mem, rowD]
  have d1 : ev T_law_row (.dc "_law_draw" 0 (.cons (.bin .add (.v 2) (.k (.int 1))) .nil)) [.dr, .va (treeD t), .va (.int L), .ow (rowD (clicksP t)), .no, .ow (rowD []), .no] (some q) = .ok (.int m) (some q1) := j_dc (ds := [.int ((L : Int) + 1)]) rfl (by simp [-List.contains_eq_mem]) T_lr_1 e1
  have key := loopF_ex (tg := .n 6) (b := exec T_law_row (.sq (.app 5 (.dc "_law_pick" 0 (.cons (.bin .add (.bin .add (.ca "_law_deeds" (.cons (.v 1) .nil)) (.v 3)) (.v 3)) .nil))) .sk))
    (fun xs ρ δ => ∃ ds q j, ds.length + xs.length ≤ L ∧ (∀ d ∈ ds, d.ok t) ∧ δ = some q ∧ q.1 ≠ [] ∧ ρ = [.dr, .va (treeD t), .va (.int L), .ow (rowD (clicksP t)), .no, .ow (rowD ds), j]) (by
      rintro x xs ρ δ ⟨ds, q, j, hl, hd, rfl, hq, rfl⟩
      have hcl : (clicksP t).length = t.length := by simp [-List.contains_eq_mem, clicksP]
      have hdl : (deedsP t).length = t.length + 3 := by simp [-List.contains_eq_mem, deedsP, clicksP]
      obtain ⟨d, q', e, hm, hq'⟩ := e_pick (xs := (deedsP t ++ clicksP t ++ clicksP t).map deedD) (q := q) (by simp [-List.contains_eq_mem, deedsP]) (by simp [-List.contains_eq_mem]; omega) hq
      simp only [List.mem_map] at hm
      obtain ⟨dd, hdd, rfl⟩ := hm
      have hok : dd.ok t := by
        simp only [List.mem_append] at hdd
        rcases hdd with (h | h) | h
        · exact deedsP_ok h
        · exact clicksP_ok h
        · exact clicksP_ok h
      have ed : M_law_deeds [treeD t] = .ok (.list ((deedsP t).map deedD)) := e_ldeeds ht
      have hb1 : (deedsP t).length + (clicksP t).length ≤ big := by rw [hcl, hdl]; unfold big; omega
      have hb2 : (deedsP t).length + (clicksP t).length + (clicksP t).length ≤ big := by rw [hcl, hdl]; unfold big; omega
      have pk : ev T_law_row (.dc "_law_pick" 0 (.cons (.bin .add (.bin .add (.ca "_law_deeds" (.cons (.v 1) .nil)) (.v 3)) (.v 3)) .nil)) [.dr, .va (treeD t), .va (.int L), .ow (rowD (clicksP t)), .no, .ow (rowD ds), .va x] (some q) = .ok (deedD dd) (some q') :=
        j_dc (ds := [.list ((deedsP t ++ clicksP t ++ clicksP t).map deedD)]) rfl (by simp [-List.contains_eq_mem, T_lr_3, ed, rowD, hb1, ← Nat.add_assoc, hb2]) T_lr_2 e
      refine ⟨_, [.dr, .va (treeD t), .va (.int L), .ow (rowD (clicksP t)), .no, .ow (rowD (ds ++ [dd])), .va x], some q', rfl, ?_, ds ++ [dd], q', .va x, by simp [-List.contains_eq_mem] at hl ⊢; omega, ?_, rfl, hq', rfl⟩
      · have hb : ds.length < big := by simp [-List.contains_eq_mem] at hl; unfold big; omega
        simp only [rowD] at pk ⊢
        simp [-List.contains_eq_mem, pk, appR, hb, d_sc]
      · intro d hd'
        simp only [List.mem_append, List.mem_cons, List.not_mem_nil, or_false] at hd'
        rcases hd' with h | rfl
        · exact hd d h
        · exact hok) (nL (List.range m)) [.dr, .va (treeD t), .va (.int L), .ow (rowD (clicksP t)), .no, .ow (rowD []), .no] (some q1) ⟨[], q1, .no, by simp [-List.contains_eq_mem]; omega, by simp [-List.contains_eq_mem], rfl, hq1, rfl⟩
  obtain ⟨ρ', δ', e2, ds, q2, j, hl, hd, rfl, hq2, rfl⟩ := key
  refine ⟨ds, q2, runD_ok rfl ((seq_nx s1).trans ((seq_nx s2).trans ?_)), hd, by simpa using hl, hq2⟩
  have hr2 : n1 (.int (m : Int)) = some (nL (List.range m)) := r_n1n (by omega)
  simp [-List.contains_eq_mem, -r_n1, -sx_app, d1, hr2, e2]
end Tk
set_option linter.all false
set_option Elab.async false
set_option maxRecDepth 100000
set_option maxHeartbeats 1000000
namespace Tk
open PySem
mutual
theorem eqv_refl : ∀ d : D, PyData.canLay0 d = true → PyData.eqv d d = true
  | .none, _ => by simp [PyData.eqv]
  | .bool _, _ => by simp [PyData.eqv]
  | .int _, _ => by simp [PyData.eqv]
  | .str _, _ => by simp [PyData.eqv]
  | .list xs, h => by
    simp only [PyData.canLay0] at h
    simp only [PyData.eqv]
    exact eqvAll_refl xs h
  | .tuple xs, h => by
    simp only [PyData.canLay0] at h
    simp only [PyData.eqv]
    exact eqvAll_refl xs h
  | .dict _, h => by simp [PyData.canLay0] at h
theorem eqvAll_refl : ∀ ds : List D, PyData.canLayAll0 ds = true → PyData.eqvAll ds ds = true
  | [], _ => by simp [PyData.eqvAll]
  | d :: ds, h => by
    simp only [PyData.canLayAll0, Bool.and_eq_true] at h
    simp only [PyData.eqvAll, Bool.and_eq_true]
    exact ⟨eqv_refl d h.1, eqvAll_refl ds h.2⟩
end
theorem ne_same {d : D} (h : SeqAt.shaped d = true) : cmD .ne d d = some false := by
  have h2 : PyData.canLay0 d = true := by simp only [SeqAt.shaped, Bool.and_eq_true] at h; exact h.1
  rw [r_ne, h, eqv_refl d h2]
  rfl
theorem eq_same {d : D} (h : SeqAt.shaped d = true) : cmD .eq d d = some true := by
  have h2 : PyData.canLay0 d = true := by simp only [SeqAt.shaped, Bool.and_eq_true] at h; exact h.1
  rw [r_eq, h, eqv_refl d h2]
  rfl
theorem j_ne {F : Tab} {a b : E} {ρ : Env} {δ : DS} {d : D} (h : SeqAt.shaped d = true) (ha : ev F a ρ δ = .ok d δ) (hb : ev F b ρ δ = .ok d δ) : ev F (.cm .ne a b) ρ δ = .ok (.bool false) δ := by
  rw [x_cm, ha, R.bind_ok, hb, R.bind_ok, ne_same h]
  rfl
theorem j_eq {F : Tab} {a b : E} {ρ : Env} {δ : DS} {d : D} (h : SeqAt.shaped d = true) (ha : ev F a ρ δ = .ok d δ) (hb : ev F b ρ δ = .ok d δ) : ev F (.cm .eq a b) ρ δ = .ok (.bool true) δ := by
  rw [x_cm, ha, R.bind_ok, hb, R.bind_ok, eq_same h]
  rfl
theorem j_ca {F : Tab} {f : Str} {es : Es} {ρ : Env} {δ : DS} {ds : List D} {g : List D → O D} {d : D} (hF : F f = some (.pu g)) (hes : evs F es ρ δ = .ok ds δ) (hg : g ds = .ok d) : ev F (.ca f es) ρ δ = .ok d δ := by
  rw [x_ca, hes, R.bind_ok, caR, hF]
  simp only [hg, R.ofO]
/-- low -/
def Low (d : D) : Prop := PyData.canLay0 d = true ∧ PyData.depth d ≤ 40
theorem Low.sh {d : D} (h : Low d) : SeqAt.shaped d = true := by
  simp only [SeqAt.shaped, h.1, Bool.true_and, decide_eq_true_eq]
  have := h.2
  omega
theorem lowsN {α : Type} {f : α → D} {n : Nat} (hf : ∀ x, PyData.canLay0 (f x) = true ∧ PyData.depth (f x) ≤ n) : ∀ (l : List α), PyData.canLayAll0 (l.map f) = true ∧ PyData.depthAll (l.map f) ≤ n
  | [] => ⟨rfl, by simp [PyData.depthAll]⟩
  | x :: l => by
    obtain ⟨h1, h2⟩ := lowsN hf l
    obtain ⟨h3, h4⟩ := hf x
    simp only [List.map_cons, PyData.canLayAll0, PyData.depthAll, h1, h3]
    exact ⟨rfl, by omega⟩
theorem low_list {α : Type} {f : α → D} {n : Nat} (hf : ∀ x, PyData.canLay0 (f x) = true ∧ PyData.depth (f x) ≤ n) (l : List α) : PyData.canLay0 (.list (l.map f)) = true ∧ PyData.depth (.list (l.map f)) ≤ n + 1 := by
  obtain ⟨h1, h2⟩ := lowsN hf l
  simp only [PyData.canLay0, PyData.depth]
  exact ⟨h1, by omega⟩
theorem low_tup {α : Type} {f : α → D} {n : Nat} (hf : ∀ x, PyData.canLay0 (f x) = true ∧ PyData.depth (f x) ≤ n) (l : List α) : PyData.canLay0 (.tuple (l.map f)) = true ∧ PyData.depth (.tuple (l.map f)) ≤ n + 1 := by
  obtain ⟨h1, h2⟩ := lowsN hf l
  simp only [PyData.canLay0, PyData.depth]
  exact ⟨h1, by omega⟩
theorem low_st (s : List Int) : PyData.canLay0 (stD s) = true ∧ PyData.depth (stD s) ≤ 1 := low_tup (n := 0) (fun x => ⟨rfl, by simp [PyData.depth]⟩) s
theorem low_sts (l : List (List Int)) : PyData.canLay0 (stsD l) = true ∧ PyData.depth (stsD l) ≤ 2 := low_list low_st l
theorem low_deed (d : Dd) : PyData.canLay0 (deedD d) = true ∧ PyData.depth (deedD d) ≤ 1 := by
  have s1 : PyData.strOk "click" = true := by decide +kernel
  have s2 : PyData.strOk "all" = true := by decide +kernel
  have s3 : PyData.strOk "none" = true := by decide +kernel
  have s4 : PyData.strOk "turn" = true := by decide +kernel
  cases d <;> simp [deedD, PyData.canLay0, PyData.canLayAll0, PyData.depth, PyData.depthAll, s1, s2, s3, s4]
theorem low_row (l : List Dd) : PyData.canLay0 (rowD l) = true ∧ PyData.depth (rowD l) ≤ 2 := low_list low_deed l
theorem low_nI (n : Nat) : PyData.canLay0 (nI n) = true ∧ PyData.depth (nI n) ≤ 0 := ⟨rfl, by simp [nI, PyData.depth]⟩
theorem low_tree (t : List Nat) : PyData.canLay0 (treeD t) = true ∧ PyData.depth (treeD t) ≤ 1 := low_list low_nI t
theorem low_ticks (l : List Nat) : PyData.canLay0 (.tuple (nL l)) = true ∧ PyData.depth (.tuple (nL l)) ≤ 1 := low_tup low_nI l
theorem low_view (t : List Nat) (i : Nat) (s : List Int) : PyData.canLay0 (viewP t i s) = true ∧ PyData.depth (viewP t i s) ≤ 1 := by
  unfold viewP
  split
  · exact low_st s
  · exact low_ticks _
theorem low_views (t : List Nat) (i : Nat) (l : List (List Int)) : PyData.canLay0 (viewsP t i l) = true ∧ PyData.depth (viewsP t i l) ≤ 2 := low_list (low_view t i) l
theorem shOf {d : D} {n : Nat} (h : PyData.canLay0 d = true ∧ PyData.depth d ≤ n) (hn : n ≤ 64) : SeqAt.shaped d = true := by
  simp only [SeqAt.shaped, h.1, Bool.true_and, decide_eq_true_eq]
  omega
end Tk
set_option linter.all false
set_option Elab.async false
set_option maxRecDepth 100000
set_option maxHeartbeats 1000000
namespace Tk
open PySem
/-! ### more of the plain law: one deed more, what a click changes -/
theorem run_snoc {w : Wy} {t : List Nat} {ds : List Dd} {d : Dd} : (runR w t (ds ++ [d])).2 = stepP w t (runR w t ds).2 d := by
  simp [runR, List.foldl_append, nextP]
theorem step_free {w : Wy} {t : List Nat} {s : List Int} {d : Dd} (h1 : w.mu = 0) (h2 : w.mo = 0) : stepP w t s d = afterP w t s d := by
  have : keptP w t s (afterP w t s d) = false := by simp [keptP, h1, h2]
  unfold stepP
  rw [this]
  rfl
theorem lift_len {c : Str} {t : List Nat} : ∀ {l : List Nat} {a : List Int}, (liftP c t l a).length = a.length
  | [], a => rfl
  | h :: l, a => by
    show (liftP c t l (tellP c t a h)).length = _
    rw [lift_len]
    simp [tellP]
theorem lift_get {c : Str} {t : List Nat} {k : Nat} : ∀ {l : List Nat} {a : List Int}, k ∉ l → k < a.length → (liftP c t l a).getD k 0 = a.getD k 0
  | [], a, _, _ => rfl
  | h :: l, a, hk, hl => by
    show (liftP c t l (tellP c t a h)).getD k 0 = _
    simp only [List.mem_cons, not_or] at hk
    rw [lift_get hk.2 (by simp [tellP, hl]), tellP, getD_set hl, if_neg (Ne.symm hk.1)]
/-- a click, before anything is told upwards -/
def preP (w : Wy) (t : List Nat) (s : List Int) (b : Nat) : List Int := if w.al == 1 && valP w (s.getD b 0) == 1 then sistP t b (putAll s (downP w t b) (valP w (s.getD b 0))) else putAll s (downP w t b) (valP w (s.getD b 0))
theorem pre_len {w : Wy} {t : List Nat} {s : List Int} {b : Nat} : (preP w t s b).length = s.length := by
  have : ∀ (l : List Nat) (a : List Int), (l.foldl (fun a s => if s == b then a else putAll a (s :: bel t s) 0) a).length = a.length := fun l => by
    induction l with
    | nil => intro a; rfl
    | cons x l ih =>
      intro a
      rw [List.foldl_cons, ih]
      split
      · rfl
      · rw [putAll_len]
  unfold preP
  split
  · rw [sistP, this, putAll_len]
  · rw [putAll_len]
theorem click_get {w : Wy} {t : List Nat} {s : List Int} {b k : Nat} (hk : k ∉ abv t b) (hl : k < s.length) : (clickP w t s b).getD k 0 = (preP w t s b).getD k 0 := by
  show (if w.up == "none" then preP w t s b else liftP w.up t (abv t b) (preP w t s b)).getD k 0 = _
  split
  · rfl
  · exact lift_get hk (by rw [pre_len]; exact hl)
def leafB (t : List Nat) : Bool := ((lvs t).all fun b => (bel t b).isEmpty) && !(lvs t).isEmpty && (List.range t.length).all fun b => !(abv t b).contains b && (bel t b).all (fun k => !(abv t b).contains k) && (lsisP t b).all (fun k => !(abv t b).contains k && !(b :: bel t b).contains k && (lgoneP t b).contains k)
theorem leavesB : trees.all leafB = true := by decide +kernel
theorem leaf_bel {t : List Nat} {b : Nat} (ht : t ∈ trees) (hb : b ∈ lvs t) : bel t b = [] := by
  have h := List.all_eq_true.mp leavesB t ht
  simp only [leafB, Bool.and_eq_true, List.all_eq_true] at h
  simpa using h.1.1 b hb
theorem lvs_ne {t : List Nat} (ht : t ∈ trees) : lvs t ≠ [] := by
  have h := List.all_eq_true.mp leavesB t ht
  simp only [leafB, Bool.and_eq_true] at h
  have := h.1.2
  intro z
  rw [z] at this
  simp at this
theorem leaf_abv {t : List Nat} {b k : Nat} (ht : t ∈ trees) (hb : b < t.length) (hk : k ∈ lvs t) : k ∉ abv t b := fun z => by
  have := abv_inner ht hb z
  rw [List.contains_eq_mem] at this
  simp [hk] at this
theorem boxes {t : List Nat} {b : Nat} (ht : t ∈ trees) (hb : b < t.length) : b ∉ abv t b ∧ (∀ k ∈ bel t b, k ∉ abv t b) ∧ ∀ k ∈ lsisP t b, k ∉ abv t b ∧ (b :: bel t b).contains k = false ∧ (lgoneP t b).contains k = true := by
  have h := List.all_eq_true.mp leavesB t ht
  simp only [leafB, Bool.and_eq_true, List.all_eq_true, List.mem_range] at h
  obtain ⟨⟨h1, h2⟩, h3⟩ := h.2 b hb
  refine ⟨by simpa using h1, fun k hk => by simpa using h2 k hk, fun k hk => ?_⟩
  obtain ⟨⟨h4, h5⟩, h6⟩ := h3 k hk
  exact ⟨by simpa using h4, by simpa using h5, h6⟩
/-- a leaf clicked, nothing else asked: that leaf alone turns -/
theorem leaf_click {w : Wy} {t : List Nat} {s : List Int} {b k : Nat} (ht : t ∈ trees) (hal : w.al = 0) (g : GoodS1 w t s) (hb : b ∈ lvs t) (hk : k ∈ lvs t) : (clickP w t s b).getD k 0 = if k = b then 1 - s.getD b 0 else s.getD k 0 := by
  have hbl := lvs_lt hb
  have hkl := lvs_lt hk
  rw [click_get (leaf_abv ht hbl hk) (by rw [g.1]; exact hkl), preP, hal]
  rw [if_neg (by simp), getD_putAll (by rw [g.1]; exact hkl), downP, leaf_bel ht hb]
  have e : (b :: if (w.dn == "all") = true then ([] : List Nat) else []).contains k = (k == b) := by split <;> simp [List.contains_cons, -List.contains_eq_mem]
  rw [e]
  by_cases h : k = b
  · subst h
    simp only [beq_self_eq_true, if_true]
    rcases g.2 k hkl with h | h | ⟨_, h, _⟩
    · rw [h]; simp [valP]
    · rw [h]; simp [valP]
    · rw [List.contains_eq_mem] at h; simp [hk] at h
  · simp [h]
theorem tell_get {c : Str} {t : List Nat} {k : Nat} (hk : (lvs t).contains k = true) : ∀ {l : List Nat} {a : List Int}, k < a.length → (l.foldl (fun a b => if (lvs t).contains b then a else tellP c t a b) a).getD k 0 = a.getD k 0
  | [], a, _ => rfl
  | b :: l, a, hl => by
    rw [List.foldl_cons]
    cases hb : (lvs t).contains b with
    | true => simp only [if_true]; exact tell_get hk hl
    | false =>
      have : b ≠ k := fun z => by rw [z, hk] at hb; cases hb
      simp only [Bool.false_eq_true, if_false]
      rw [tell_get hk (by simp [tellP, hl]), tellP, getD_set hl, if_neg this]
theorem turn_leaf {w : Wy} {t : List Nat} {s : List Int} {k : Nat} (hs : s.length = t.length) (hk : k ∈ lvs t) : (turnP w t s).getD k 0 = 1 - s.getD k 0 := by
  have hkl := lvs_lt hk
  have hc : (lvs t).contains k = true := by rw [List.contains_eq_mem]; simpa using hk
  have e : (lflipP t s).getD k 0 = 1 - s.getD k 0 := by rw [lflipP, getD_map hkl, hc]; rfl
  simp only [turnP, flip_eq hs]
  split
  · exact e
  · rw [tell_get hc (by simp [lflipP, hkl]), e]
theorem leaf_two01 {w : Wy} {t : List Nat} {s : List Int} {k : Nat} (g : GoodS1 w t s) (hk : k ∈ lvs t) : s.getD k 0 = 0 ∨ s.getD k 0 = 1 := by
  rcases g.2 k (lvs_lt hk) with h | h | ⟨_, h, _⟩
  · exact .inl h
  · exact .inr h
  · rw [List.contains_eq_mem] at h; simp [hk] at h
theorem mem_tick {t : List Nat} {s : List Int} {k : Nat} : k ∈ tickP t s ↔ k ∈ lvs t ∧ s.getD k 0 = 1 := by
  simp [tickP]
abbrev oN (l : List Nat) : List Int := l.map Int.ofNat
theorem mem_oN {l : List Nat} {z : Int} : z ∈ oN l ↔ ∃ k ∈ l, (k : Int) = z := by simp [oN]
theorem union_eq {w : Wy} {t : List Nat} {s : List Int} {b : Nat} (ht : t ∈ trees) (hal : w.al = 0) (g : GoodS1 w t s) (hb : b ∈ lvs t) : usort (oN (tickP t s) ++ oN (tickP t (clickP w t s b))) = usort (oN (tickP t s) ++ [(b : Int)]) := by
  refine strict_unique (fun z => ?_) (usort_sorted _) (usort_sorted _)
  rw [usort_mem, usort_mem]
  simp only [List.mem_append, mem_oN, List.mem_cons, List.not_mem_nil, or_false]
  constructor
  · rintro (h | ⟨k, hk, rfl⟩)
    · exact .inl h
    · obtain ⟨h1, h2⟩ := mem_tick.mp hk
      rw [leaf_click ht hal g hb h1] at h2
      by_cases e : k = b
      · right; rw [e]
      · rw [if_neg e] at h2
        exact .inl ⟨k, mem_tick.mpr ⟨h1, h2⟩, rfl⟩
  · rintro (h | rfl)
    · exact .inl h
    · rcases leaf_two01 g hb with h | h
      · refine .inr ⟨b, mem_tick.mpr ⟨hb, ?_⟩, rfl⟩
        rw [leaf_click ht hal g hb hb, if_pos rfl, h]
        decide
      · exact .inl ⟨b, mem_tick.mpr ⟨hb, h⟩, rfl⟩
theorem toggled {w : Wy} {t : List Nat} {s : List Int} {b : Nat} (ht : t ∈ trees) (hal : w.al = 0) (g : GoodS1 w t s) (hb : b ∈ lvs t) : (tickP t s).contains b = !(tickP t (clickP w t s b)).contains b := by
  have e1 : (tickP t s).contains b = decide (s.getD b 0 = 1) := by
    rw [Bool.eq_iff_iff, List.contains_eq_mem]
    simp only [decide_eq_true_eq]
    rw [mem_tick]
    exact ⟨fun h => h.2, fun h => ⟨hb, h⟩⟩
  have e2 : (tickP t (clickP w t s b)).contains b = decide (1 - s.getD b 0 = 1) := by
    rw [Bool.eq_iff_iff, List.contains_eq_mem]
    simp only [decide_eq_true_eq]
    rw [mem_tick, leaf_click ht hal g hb hb, if_pos rfl]
    exact ⟨fun h => h.2, fun h => ⟨hb, h⟩⟩
  rw [e1, e2]
  rcases leaf_two01 g hb with h | h <;> rw [h] <;> decide
theorem lvs_sorted {t : List Nat} : (oN (lvs t)).Pairwise (· ≤ ·) := by
  unfold oN
  rw [List.pairwise_map]
  have h : (lvs t).Pairwise (· < ·) := List.Pairwise.filter _ List.pairwise_lt_range
  refine h.imp fun h => ?_
  show ((_ : Nat) : Int) ≤ ((_ : Nat) : Int)
  omega
theorem tick_turn {w : Wy} {t : List Nat} {s : List Int} (g : GoodS1 w t s) : isort (oN (tickP t s) ++ oN (tickP t (turnP w t s))) = oN (lvs t) := by
  have e : tickP t (turnP w t s) = (lvs t).filter fun b => !(s.getD b 0 == 1) := by
    unfold tickP
    refine List.filter_congr fun b hb => ?_
    rw [turn_leaf g.1 hb]
    rcases leaf_two01 g hb with h | h <;> rw [h] <;> decide
  refine sorted_unique ((isort_perm _).trans ?_) (isort_sorted _) lvs_sorted
  rw [e, ← List.map_append]
  exact (List.filter_append_perm _ _).map _
/-! ### fitting states -/
def fillP (t : List Nat) : List Nat → List (List Int)
  | [] => [[]]
  | b :: bs => if (lvs t).contains b then (fillP t bs).flatMap fun l => [0 :: l, 1 :: l] else (fillP t bs).map fun l => 0 :: l
def fitStates (t : List Nat) : List (List Int) := (fillP t (List.range t.length)).map fun a => (List.range t.length).reverse.foldl (fun a b => if (lvs t).contains b then a else tellP "half" t a b) a
def fitW (hf : Str) : Wy := ⟨"all", hf, "half", 0, 0, 0⟩
def underL (t : List Nat) (b : Nat) : List Nat := (lvs t).filter fun l => (abv t l).contains b
def fitB (t : List Nat) (s : List Int) : Bool := (List.range t.length).all (fun b => (underL t b).isEmpty || toldP "half" ((underL t b).map fun k => s.getD k 0) == s.getD b 0) && ((List.range t.length).filter (misB t s)).isEmpty
def fitsB (t : List Nat) : Bool := (fitStates t).contains (firstP t) && (fitStates t).all fun s => fitB t s && [("tick" : Str), "clear"].all fun hf => (deedsP t).all fun d => (fitStates t).contains (afterP (fitW hf) t s d)
end Tk
set_option linter.all false
set_option Elab.async false
set_option maxRecDepth 100000
set_option maxHeartbeats 1000000
/-! TkBfs: going through by breadth, plainly; tables as dicts. -/
namespace Tk
open PySem
section
variable {α β : Type} [DecidableEq α]
abbrev Tb (α β : Type) := List (α × List β)
def keysT (T : Tb α β) : List α := T.map (·.1)
def hasT (T : Tb α β) (s : α) : Bool := T.any fun p => decide (p.1 = s)
def exp1 (f : α → β → α) (x : α × List β) (T : Tb α β) (d : β) : Tb α β := if hasT T (f x.1 d) then T else T ++ [(f x.1 d, x.2 ++ [d])]
def expd (f : α → β → α) (ds : List β) (T : Tb α β) (x : α × List β) : Tb α β := ds.foldl (exp1 f x) T
/-- n turns, from the place h on -/
def bfsN (f : α → β → α) (ds : List β) : Nat → Tb α β → Nat → Tb α β
  | 0, T, _ => T
  | n + 1, T, h => match T[h]? with
    | none => T
    | some x => bfsN f ds n (expd f ds T x) (h + 1)
theorem hasT_iff {T : Tb α β} {s : α} : hasT T s = true ↔ s ∈ keysT T := by
  simp only [hasT, keysT, List.any_eq_true, decide_eq_true_eq, List.mem_map]
theorem exp1_pre (f : α → β → α) (x : α × List β) (T : Tb α β) (d : β) : ∃ M, exp1 f x T d = T ++ M := by
  unfold exp1
  split
  · exact ⟨[], by simp⟩
  · exact ⟨_, rfl⟩
theorem expd_pre (f : α → β → α) (x : α × List β) : ∀ (ds : List β) (T : Tb α β), ∃ M, expd f ds T x = T ++ M
  | [], T => ⟨[], by simp [expd]⟩
  | d :: ds, T => by
    obtain ⟨M, e⟩ := exp1_pre f x T d
    obtain ⟨M', e'⟩ := expd_pre f x ds (exp1 f x T d)
    refine ⟨M ++ M', ?_⟩
    show expd f ds (exp1 f x T d) x = _
    rw [e', e, List.append_assoc]
/-- keys once each; each entry is Q -/
def OkT (Q : α → List β → Prop) (T : Tb α β) : Prop := (keysT T).Nodup ∧ ∀ p ∈ T, Q p.1 p.2
theorem OkT.exp1 {Q : α → List β → Prop} {f : α → β → α} {x : α × List β} {T : Tb α β} {d : β} (h : OkT Q T) (hq : Q (f x.1 d) (x.2 ++ [d])) : OkT Q (exp1 f x T d) := by
  unfold Tk.exp1
  split
  · exact h
  · rename_i hn
    refine ⟨?_, fun p hp => ?_⟩
    · simp only [keysT, List.map_append, List.map_cons, List.map_nil]
      refine List.nodup_append.mpr ⟨h.1, by simp, fun a ha b hb => ?_⟩
      simp only [List.mem_cons, List.not_mem_nil, or_false] at hb
      subst hb
      intro e
      exact hn (hasT_iff.mpr (by rw [← e]; exact ha))
    · rcases List.mem_append.mp hp with hp | hp
      · exact h.2 p hp
      · simp only [List.mem_cons, List.not_mem_nil, or_false] at hp
        subst hp; exact hq
theorem OkT.expd {Q : α → List β → Prop} {f : α → β → α} {x : α × List β} : ∀ {ds : List β} {T : Tb α β}, OkT Q T → (∀ d ∈ ds, Q (f x.1 d) (x.2 ++ [d])) → OkT Q (expd f ds T x)
  | [], T, h, _ => h
  | d :: ds, T, h, hq => OkT.expd (ds := ds) (T := Tk.exp1 f x T d) (OkT.exp1 h (hq d (by simp))) fun d' h' => hq d' (by simp [h'])
theorem nodup_le {l u : List α} (hn : l.Nodup) (hs : ∀ x ∈ l, x ∈ u) : l.length ≤ u.length := by
  induction l generalizing u with
  | nil => simp
  | cons x l ih =>
    have h1 := List.nodup_cons.mp hn
    have hx := hs x (by simp)
    have := ih (u := u.erase x) h1.2 fun y hy => (List.mem_erase_of_ne (fun e => h1.1 (by rw [← e]; exact hy))).mpr (hs y (by simp [hy]))
    rw [List.length_erase_of_mem hx] at this
    have : 0 < u.length := List.length_pos_of_mem hx
    simp only [List.length_cons]
    omega
theorem bfs_end {f : α → β → α} {ds : List β} {T : Tb α β} {h n : Nat} (e : T[h]? = none) : bfsN f ds n T h = T := by
  cases n with
  | zero => rfl
  | succ n => simp only [bfsN, e]
/-- all of a part at once -/
theorem bfs_part {f : α → β → α} {ds : List β} : ∀ (xs R : Tb α β) (T : Tb α β) (h n : Nat), T.drop h = xs ++ R → bfsN f ds (xs.length + n) T h = bfsN f ds n (xs.foldl (expd f ds) T) (h + xs.length)
  | [], R, T, h, n, _ => by simp
  | x :: xs, R, T, h, n, e => by
    have hx : T[h]? = some x := by
      have : (T.drop h)[0]? = some x := by rw [e]; rfl
      rwa [List.getElem?_drop] at this
    have e1 : T.drop (h + 1) = xs ++ R := by
      have : (T.drop h).drop 1 = xs ++ R := by rw [e]; rfl
      rwa [List.drop_drop] at this
    obtain ⟨M, em⟩ := expd_pre f x ds T
    have e2 : (expd f ds T x).drop (h + 1) = xs ++ (R ++ M) := by
      rw [em, List.drop_append_of_le_length (by have := (List.getElem?_eq_some_iff.mp hx).1; omega), e1, List.append_assoc]
    have := bfs_part (f := f) (ds := ds) xs (R ++ M) (expd f ds T x) (h + 1) n e2
    rw [show (x :: xs).length + n = (xs.length + n) + 1 by simp; omega]
    simp only [bfsN, hx, List.foldl_cons]
    rw [this]
    congr 1
    simp; omega
theorem part_pre {f : α → β → α} {ds : List β} : ∀ (xs : Tb α β) (T : Tb α β), ∃ M, xs.foldl (expd f ds) T = T ++ M
  | [], T => ⟨[], by simp⟩
  | x :: xs, T => by
    obtain ⟨M, e⟩ := expd_pre f x ds T
    obtain ⟨M', e'⟩ := part_pre (f := f) (ds := ds) xs (expd f ds T x)
    exact ⟨M ++ M', by rw [List.foldl_cons, e', e, List.append_assoc]⟩
theorem bfs_pre {f : α → β → α} {ds : List β} : ∀ (n : Nat) (T : Tb α β) (h : Nat), ∃ M, bfsN f ds n T h = T ++ M
  | 0, T, h => ⟨[], by simp [bfsN]⟩
  | n + 1, T, h => by
    simp only [bfsN]
    split
    · exact ⟨[], by simp⟩
    · rename_i x _
      obtain ⟨M, e⟩ := expd_pre f x ds T
      obtain ⟨M', e'⟩ := bfs_pre (f := f) (ds := ds) n (expd f ds T x) (h + 1)
      exact ⟨M ++ M', by rw [e', e, List.append_assoc]⟩
theorem bfs_ok {Q : α → List β → Prop} {f : α → β → α} {ds : List β} (hq : ∀ s r d, d ∈ ds → Q s r → Q (f s d) (r ++ [d])) : ∀ (n : Nat) (T : Tb α β) (h : Nat), OkT Q T → OkT Q (bfsN f ds n T h)
  | 0, T, h, o => o
  | n + 1, T, h, o => by
    simp only [bfsN]
    split
    · exact o
    · rename_i x hx
      exact bfs_ok hq n _ _ (o.expd fun d hd => hq _ _ d hd (o.2 x (List.mem_of_getElem? hx)))
theorem exp1_has {f : α → β → α} {x : α × List β} {T : Tb α β} {d : β} : f x.1 d ∈ keysT (exp1 f x T d) := by
  unfold exp1
  split
  · rename_i h; exact hasT_iff.mp h
  · simp [keysT]
theorem expd_has {f : α → β → α} {x : α × List β} : ∀ {ds : List β} {T : Tb α β} {d : β}, d ∈ ds → f x.1 d ∈ keysT (expd f ds T x)
  | d :: ds, T, d', h => by
    show f x.1 d' ∈ keysT (expd f ds (exp1 f x T d) x)
    rcases List.mem_cons.mp h with rfl | h
    · obtain ⟨M, e⟩ := expd_pre f x ds (exp1 f x T d')
      rw [e]
      simp only [keysT, List.map_append, List.mem_append]
      exact .inl exp1_has
    · exact expd_has h
/-- all that comes is in it: places before h are done -/
theorem bfs_closed {f : α → β → α} {ds : List β} : ∀ (n : Nat) (T : Tb α β) (h : Nat), (∀ i x, i < h → T[i]? = some x → ∀ d ∈ ds, f x.1 d ∈ keysT T) → (bfsN f ds n T h).length ≤ h + n → ∀ x ∈ bfsN f ds n T h, ∀ d ∈ ds, f x.1 d ∈ keysT (bfsN f ds n T h)
  | 0, T, h, hc, hl, x, hx, d, hd => by
    obtain ⟨i, hi⟩ := List.mem_iff_getElem?.mp hx
    simp only [bfsN] at hi hl ⊢
    exact hc i x (by have := (List.getElem?_eq_some_iff.mp hi).1; omega) hi d hd
  | n + 1, T, h, hc, hl, x, hx, d, hd => by
    simp only [bfsN] at hx hl ⊢
    cases e : T[h]? with
    | none =>
      rw [e] at hx
      simp only at hx ⊢
      obtain ⟨i, hi⟩ := List.mem_iff_getElem?.mp hx
      have h1 := (List.getElem?_eq_some_iff.mp hi).1
      have h2 := List.getElem?_eq_none_iff.mp e
      exact hc i x (by omega) hi d hd
    | some y =>
      rw [e] at hx hl
      simp only at hx hl ⊢
      refine bfs_closed n _ _ (fun i z hi hz d hd => ?_) (by omega) x hx d hd
      obtain ⟨M, em⟩ := expd_pre f y ds T
      have hy := (List.getElem?_eq_some_iff.mp e).1
      have hz' : T[i]? = some z := by
        rw [em, List.getElem?_append_left (by omega)] at hz
        exact hz
      by_cases hih : i = h
      · subst hih
        rw [e] at hz'
        injection hz' with hz'; subst hz'
        exact expd_has hd
      · have := hc i z (by omega) hz' d hd
        rw [em]
        simp only [keysT, List.map_append, List.mem_append]
        exact .inl this
end
/-! ### tables as dicts -/
section
variable {α β : Type} [DecidableEq α]
/-- keys by enc, values by val -/
structure Enc (enc : α → D) : Prop where
  key : ∀ a, isKey (enc a) = true
  eqv : ∀ a b, PyData.eqv (enc a) (enc b) = decide (a = b)
def kvD (enc : α → D) (val : List β → D) (T : Tb α β) : List (D × D) := T.map fun p => (enc p.1, val p.2)
theorem kv_get {enc : α → D} {val : List β → D} (E : Enc enc) (s : α) : ∀ T : Tb α β, dget (kvD enc val T) (enc s) = (T.find? fun p => decide (p.1 = s)).map fun p => val p.2
  | [] => rfl
  | p :: T => by
    simp only [kvD, List.map_cons, dget, E.eqv, List.find?_cons]
    by_cases h : p.1 = s
    · simp [h]
    · have : decide (p.1 = s) = false := decide_eq_false h
      simp only [this, Bool.false_eq_true, if_false]
      exact kv_get E s T
theorem kv_has {enc : α → D} {val : List β → D} (E : Enc enc) (s : α) (T : Tb α β) : (dget (kvD enc val T) (enc s)).isSome = hasT T s := by
  rw [kv_get E, Option.isSome_map, Bool.eq_iff_iff, List.find?_isSome]
  simp [hasT]
theorem kv_put {enc : α → D} {val : List β → D} (E : Enc enc) {s : α} {r : List β} : ∀ {T : Tb α β}, hasT T s = false → dput (kvD enc val T) (enc s) (val r) = kvD enc val (T ++ [(s, r)])
  | [], _ => rfl
  | p :: T, h => by
    simp only [hasT, List.any_cons, Bool.or_eq_false_iff] at h
    simp only [kvD, List.map_cons, dput, E.eqv, h.1, Bool.false_eq_true, if_false, List.cons_append]
    congr 1
    exact kv_put E h.2
theorem kv_at {enc : α → D} {val : List β → D} (E : Enc enc) {T : Tb α β} {x : α × List β} (hn : (keysT T).Nodup) (hx : x ∈ T) : dget (kvD enc val T) (enc x.1) = some (val x.2) := by
  rw [kv_get E]
  have : T.find? (fun p => decide (p.1 = x.1)) = some x := by
    induction T with
    | nil => cases hx
    | cons p T ih =>
      simp only [keysT, List.map_cons, List.nodup_cons] at hn
      rw [List.find?_cons]
      rcases List.mem_cons.mp hx with rfl | hx
      · simp
      · have : ¬ p.1 = x.1 := fun e => hn.1 (by rw [e]; exact List.mem_map_of_mem hx)
        simp only [this, decide_false]
        exact ih hn.2 hx
  rw [this]; rfl
theorem kv_keys {enc : α → D} {val : List β → D} (T : Tb α β) : (kvD enc val T).map (·.1) = (keysT T).map enc := by
  simp [kvD, keysT]
theorem kv_len {enc : α → D} {val : List β → D} (T : Tb α β) : (kvD enc val T).length = T.length := by simp [kvD]
end
/-! ### states as keys -/
theorem eqv_st (a b : List Int) : PyData.eqv (stD a) (stD b) = decide (a = b) := by
  simp only [stD, PyData.eqv]
  rw [eqvAll_iL]
  by_cases h : a = b <;> simp [h]
theorem keysOf_iL : ∀ a : List Int, keysOf (iL a) = some (a.map .num)
  | [] => rfl
  | x :: a => by
    have := keysOf_iL a
    simp only [iL, List.map_cons, keysOf, keyOf] at this ⊢
    rw [this]
theorem depth_nums : ∀ a : List Int, NestedKey.depthAll (a.map NestedKey.num) = 0
  | [] => rfl
  | x :: a => by simp [NestedKey.depthAll, NestedKey.depth, depth_nums a]
theorem isKey_st (a : List Int) : isKey (stD a) = true := by
  simp only [stD, isKey, keyOf, keysOf_iL, NestedKey.depth, depth_nums]
  decide
theorem encS : Enc stD := ⟨isKey_st, eqv_st⟩
/-! ### all states -/
def allS : Nat → List (List Int)
  | 0 => [[]]
  | n + 1 => (allS n).flatMap fun l => [0 :: l, 1 :: l, 2 :: l]
theorem allS_len : ∀ n, (allS n).length = 3 ^ n
  | 0 => rfl
  | n + 1 => by
    have e : ∀ l : List (List Int), (l.flatMap fun l => [0 :: l, 1 :: l, 2 :: l]).length = 3 * l.length := fun l => by
      induction l with
      | nil => rfl
      | cons x l ih => simp only [List.flatMap_cons, List.length_append, ih, List.length_cons, List.length_nil]; omega
    rw [allS, e, allS_len n, Nat.pow_succ]; omega
theorem allS_mem : ∀ {n : Nat} {s : List Int}, s.length = n → (∀ v ∈ s, v = 0 ∨ v = 1 ∨ v = 2) → s ∈ allS n
  | 0, [], _, _ => by simp [allS]
  | n + 1, x :: s, hl, hv => by
    rw [allS, List.mem_flatMap]
    refine ⟨s, allS_mem (by simpa using hl) fun v h => hv v (by simp [h]), ?_⟩
    rcases hv x (by simp) with rfl | rfl | rfl <;> simp
theorem good_mem {w : Wy} {t : List Nat} {s : List Int} (g : GoodS1 w t s) : s ∈ allS t.length := by
  refine allS_mem g.1 fun v hv => ?_
  obtain ⟨i, hi, rfl⟩ := List.mem_iff_getElem.mp hv
  have := (g.2 i (by rw [← g.1]; exact hi)).three
  rwa [List.getD_eq_getElem?_getD, List.getElem?_eq_getElem hi] at this
theorem allS_le {t : List Nat} (ht : t ∈ trees) : (allS t.length).length ≤ 243 := by
  have := tree_small ht
  rw [allS_len]
  have h : t.length ≤ 5 := by omega
  calc 3 ^ t.length ≤ 3 ^ 5 := Nat.pow_le_pow_right (by decide) h
    _ = 243 := by decide
/-! ### all states that come -/
def reachT (w : Wy) (t : List Nat) (ds : List Dd) (s0 : List Int) : Tb (List Int) Dd := bfsN (stepP w t) ds 243 [(s0, [])] 0
/-- an entry: a fine state, a row of good deeds -/
def EntOk (w : Wy) (t : List Nat) (s : List Int) (r : List Dd) : Prop := Fine w t s ∧ ∀ d ∈ r, d.ok t
theorem entOk_step {w : Wy} {t : List Nat} {ds : List Dd} (hw : w.ok) (ht : t ∈ trees) (hd : ∀ d ∈ ds, d.ok t) : ∀ s r d, d ∈ ds → EntOk w t s r → EntOk w t (stepP w t s d) (r ++ [d]) := fun s r d hm h =>
  ⟨h.1.step hw ht (hd d hm), fun d' h' => by
    simp only [List.mem_append, List.mem_cons, List.not_mem_nil, or_false] at h'
    rcases h' with h' | rfl
    · exact h.2 d' h'
    · exact hd d' hm⟩
theorem okT_len {w : Wy} {t : List Nat} (ht : t ∈ trees) {T : Tb (List Int) Dd} (o : OkT (EntOk w t) T) : T.length ≤ 243 := by
  have := nodup_le o.1 (u := allS t.length) fun x hx => by
    simp only [keysT, List.mem_map] at hx
    obtain ⟨p, hp, rfl⟩ := hx
    exact good_mem (o.2 p hp).1.1
  have h2 := allS_le ht
  simp only [keysT, List.length_map] at this
  omega
theorem okT_one {w : Wy} {t : List Nat} {s : List Int} (h : Fine w t s) : OkT (EntOk w t) [(s, [])] := ⟨by simp [keysT], fun p hp => by
  simp only [List.mem_cons, List.not_mem_nil, or_false] at hp
  subst hp
  exact ⟨h, fun _ h => nomatch h⟩⟩
theorem reach_ok {w : Wy} {t : List Nat} {ds : List Dd} {s0 : List Int} (hw : w.ok) (ht : t ∈ trees) (hd : ∀ d ∈ ds, d.ok t) (h0 : Fine w t s0) : OkT (EntOk w t) (reachT w t ds s0) := bfs_ok (entOk_step hw ht hd) _ _ _ (okT_one h0)
theorem reach_closed {w : Wy} {t : List Nat} {ds : List Dd} {s0 : List Int} (hw : w.ok) (ht : t ∈ trees) (hd : ∀ d ∈ ds, d.ok t) (h0 : Fine w t s0) : ∀ x ∈ reachT w t ds s0, ∀ d ∈ ds, stepP w t x.1 d ∈ keysT (reachT w t ds s0) :=
  bfs_closed _ _ _ (fun i x hi => by omega) (by have := okT_len ht (reach_ok hw ht hd h0); unfold reachT at this; omega)
theorem reach_first {w : Wy} {t : List Nat} {ds : List Dd} {s0 : List Int} : ∃ M, reachT w t ds s0 = (s0, []) :: M := by
  obtain ⟨M, e⟩ := bfs_pre (f := stepP w t) (ds := ds) 243 [(s0, [])] 0
  exact ⟨M, by rw [reachT, e]; rfl⟩
end Tk
set_option linter.all false
set_option Elab.async false
set_option maxRecDepth 100000
set_option maxHeartbeats 1000000
/-! TkBfs2: rows by breadth are shortest. -/
namespace Tk
open PySem
section
variable {α β : Type} [DecidableEq α] {f : α → β → α} {ds : List β}
abbrev Mono (T : Tb α β) : Prop := T.Pairwise fun x y => x.2.length ≤ y.2.length
/-- in the midst of going on from x, the head h -/
structure Mid (T : Tb α β) (h : Nat) (x : α × List β) : Prop where
  hd : T[h]? = some x
  mono : Mono T
  near : ∀ y ∈ T, y.2.length ≤ x.2.length + 1
  idx : ∀ (i : Nat) (y : α × List β), T[i]? = some y → y.2.length ≤ i
theorem Mid.exp1 {T : Tb α β} {h : Nat} {x : α × List β} {d : β} (m : Mid T h x) : Mid (Tk.exp1 f x T d) h x ∧ (∀ y ∈ T, y ∈ Tk.exp1 f x T d) ∧ ∃ y ∈ Tk.exp1 f x T d, y.1 = f x.1 d := by
  have hl : h < T.length := (List.getElem?_eq_some_iff.mp m.hd).1
  unfold Tk.exp1
  cases hh : hasT T (f x.1 d) with
  | true =>
    rw [if_pos rfl]
    refine ⟨m, fun _ hy => hy, ?_⟩
    obtain ⟨p, hp, e⟩ := List.mem_map.mp (hasT_iff.mp hh)
    exact ⟨p, hp, e⟩
  | false =>
    rw [if_neg (by simp)]
    refine ⟨⟨?_, ?_, fun y hy => ?_, fun i y hy => ?_⟩, fun y hy => by simp [hy], ⟨(f x.1 d, x.2 ++ [d]), by simp, rfl⟩⟩
    · rw [List.getElem?_append_left hl]; exact m.hd
    · refine List.pairwise_append.mpr ⟨m.mono, List.pairwise_singleton _ _, fun a ha b hb => ?_⟩
      rw [List.mem_singleton.mp hb]
      simpa using m.near a ha
    · rcases List.mem_append.mp hy with hy | hy
      · exact m.near y hy
      · rw [List.mem_singleton.mp hy]; simp
    · by_cases hi : i < T.length
      · rw [List.getElem?_append_left hi] at hy
        exact m.idx i y hy
      · rw [List.getElem?_append_right (by omega)] at hy
        have e : y = (f x.1 d, x.2 ++ [d]) := by
          have := List.mem_of_getElem? hy
          simpa using this
        rw [e]
        have := m.idx h x m.hd
        simp
        omega
theorem Mid.expd {h : Nat} {x : α × List β} : ∀ {ds : List β} {T : Tb α β}, Mid T h x → Mid (Tk.expd f ds T x) h x ∧ (∀ y ∈ T, y ∈ Tk.expd f ds T x) ∧ ∀ d ∈ ds, ∃ y ∈ Tk.expd f ds T x, y.1 = f x.1 d
  | [], T, m => ⟨m, fun _ hy => hy, fun d hd => nomatch hd⟩
  | d :: ds, T, m => by
    obtain ⟨m1, s1, e1⟩ := m.exp1 (f := f) (d := d)
    obtain ⟨m2, s2, e2⟩ := Mid.expd (ds := ds) m1
    refine ⟨m2, fun y hy => s2 y (s1 y hy), fun d' hd' => ?_⟩
    rcases List.mem_cons.mp hd' with rfl | hd'
    · obtain ⟨y, hy, e⟩ := e1
      exact ⟨y, s2 y hy, e⟩
    · exact e2 d' hd'
/-- the walk's state -/
structure Wk (f : α → β → α) (ds : List β) (T : Tb α β) (h : Nat) : Prop where
  mono : Mono T
  near : ∀ x, T[h]? = some x → ∀ y ∈ T, y.2.length ≤ x.2.length + 1
  idx : ∀ (i : Nat) (y : α × List β), T[i]? = some y → y.2.length ≤ i
  done : ∀ (i : Nat) (x : α × List β), i < h → T[i]? = some x → ∀ d ∈ ds, ∃ y ∈ T, y.1 = f x.1 d ∧ y.2.length ≤ x.2.length + 1
theorem Wk.next {T : Tb α β} {h : Nat} {x : α × List β} (w : Wk f ds T h) (hx : T[h]? = some x) : Wk f ds (expd f ds T x) (h + 1) := by
  obtain ⟨m, s, e⟩ := Mid.expd (f := f) (ds := ds) (x := x) ⟨hx, w.mono, w.near x hx, w.idx⟩
  obtain ⟨M, hM⟩ := expd_pre f x ds T
  have hl : h < T.length := (List.getElem?_eq_some_iff.mp hx).1
  refine ⟨m.mono, fun z hz y hy => ?_, m.idx, fun i y hi hy d hd => ?_⟩
  · have h1 := m.near y hy
    obtain ⟨l1, e1⟩ := List.getElem?_eq_some_iff.mp m.hd
    obtain ⟨l2, e2⟩ := List.getElem?_eq_some_iff.mp hz
    have := List.pairwise_iff_getElem.mp m.mono h (h + 1) l1 l2 (by omega)
    rw [e1, e2] at this
    omega
  · by_cases hi2 : i < h
    · rw [hM, List.getElem?_append_left (by omega)] at hy
      obtain ⟨z, hz, e1, e2⟩ := w.done i y hi2 hy d hd
      exact ⟨z, s z hz, e1, e2⟩
    · have : i = h := by omega
      subst this
      rw [m.hd] at hy
      injection hy with hy
      subst hy
      obtain ⟨z, hz, e1⟩ := e d hd
      exact ⟨z, hz, e1, m.near z hz⟩
theorem bfs_wk : ∀ (n : Nat) (T : Tb α β) (h : Nat), Wk f ds T h → (bfsN f ds n T h).length ≤ h + n → (∀ x ∈ bfsN f ds n T h, ∀ d ∈ ds, ∃ y ∈ bfsN f ds n T h, y.1 = f x.1 d ∧ y.2.length ≤ x.2.length + 1) ∧ ∀ (i : Nat) (y : α × List β), (bfsN f ds n T h)[i]? = some y → y.2.length ≤ i
  | 0, T, h, w, hl => by
    simp only [bfsN] at hl ⊢
    refine ⟨fun x hx d hd => ?_, w.idx⟩
    obtain ⟨i, hi⟩ := List.mem_iff_getElem?.mp hx
    exact w.done i x (by have := (List.getElem?_eq_some_iff.mp hi).1; omega) hi d hd
  | n + 1, T, h, w, hl => by
    cases hx : T[h]? with
    | none =>
      rw [bfs_end hx] at hl ⊢
      refine ⟨fun x hx' d hd => ?_, w.idx⟩
      obtain ⟨i, hi⟩ := List.mem_iff_getElem?.mp hx'
      have h1 := (List.getElem?_eq_some_iff.mp hi).1
      have h2 := List.getElem?_eq_none_iff.mp hx
      exact w.done i x (by omega) hi d hd
    | some x =>
      have e : bfsN f ds (n + 1) T h = bfsN f ds n (expd f ds T x) (h + 1) := by simp only [bfsN, hx]
      rw [e] at hl ⊢
      exact bfs_wk n _ _ (w.next hx) (by omega)
theorem wk_one {s : α} : Wk f ds [(s, ([] : List β))] 0 :=
  ⟨List.pairwise_singleton _ _, fun x hx y hy => by
    have e : y = (s, []) := by simpa using hy
    rw [e]; simp, fun i y hy => by
    have := List.mem_of_getElem? hy
    have e : y = (s, []) := by simpa using this
    rw [e]; simp, fun i x hi => by omega⟩
/-- a row of n deeds leads no farther than n -/
theorem row_within {R : Tb α β} {s0 : α} (h0 : ∃ y ∈ R, y.1 = s0 ∧ y.2.length ≤ 0) (hc : ∀ x ∈ R, ∀ d ∈ ds, ∃ y ∈ R, y.1 = f x.1 d ∧ y.2.length ≤ x.2.length + 1) (hn : (keysT R).Nodup) : ∀ (r : List β), (∀ d ∈ r, d ∈ ds) → ∃ y ∈ R, y.1 = r.foldl f s0 ∧ y.2.length ≤ r.length := by
  have key : ∀ (r : List β) (s : α) (k : Nat), (∃ y ∈ R, y.1 = s ∧ y.2.length ≤ k) → (∀ d ∈ r, d ∈ ds) → ∃ y ∈ R, y.1 = r.foldl f s ∧ y.2.length ≤ k + r.length := by
    intro r
    induction r with
    | nil => intro s k h _; simpa using h
    | cons d r ih =>
      intro s k ⟨y, hy, e, hl⟩ hd
      obtain ⟨z, hz, e1, l1⟩ := hc y hy d (hd d (by simp))
      obtain ⟨u, hu, e2, l2⟩ := ih (f s d) (k + 1) ⟨z, hz, by rw [e1, e], by omega⟩ fun d' h' => hd d' (by simp [h'])
      exact ⟨u, hu, e2, by simp; omega⟩
  intro r hr
  have := key r s0 0 h0 hr
  simpa using this
end
theorem reach_short {w : Wy} {t : List Nat} {ds : List Dd} {s0 : List Int} (hw : w.ok) (ht : t ∈ trees) (hd : ∀ d ∈ ds, d.ok t) (h0 : Fine w t s0) :
    (∀ x ∈ reachT w t ds s0, ∀ d ∈ ds, ∃ y ∈ reachT w t ds s0, y.1 = stepP w t x.1 d ∧ y.2.length ≤ x.2.length + 1) ∧ ∀ (i : Nat) (y : List Int × List Dd), (reachT w t ds s0)[i]? = some y → y.2.length ≤ i :=
  bfs_wk 243 _ 0 wk_one (by
    have := okT_len ht (reach_ok (ds := ds) hw ht hd h0)
    simpa [reachT] using this)
end Tk
set_option linter.all false
set_option Elab.async false
set_option maxRecDepth 100000
set_option maxHeartbeats 1000000
/-! K02Dp: with up = half all states that come do so within eight deeds; a step on plain numbers, checked by the kernel. -/
namespace Tk
open PySem
noncomputable section
def getN (s : List Nat) : Nat → Nat := @List.rec Nat (fun _ => Nat → Nat) (fun _ => 0) (fun x _ ih i => @Nat.rec (fun _ => Nat) x (fun k _ => ih k) i) s
def setN (s : List Nat) : Nat → Nat → List Nat := @List.rec Nat (fun _ => Nat → Nat → List Nat) (fun _ _ => []) (fun x l ih i v => @Nat.rec (fun _ => List Nat) (v :: l) (fun k _ => x :: ih k v) i) s
def iteN {β : Type} (b : Bool) (x y : β) : β := @Bool.rec (fun _ => β) y x b
def all1N (s : List Nat) (l : List Nat) : Bool := @List.rec Nat (fun _ => Bool) true (fun c _ ih => iteN (Nat.beq (getN s c) 1) ih false) l
def all0N (s : List Nat) (l : List Nat) : Bool := @List.rec Nat (fun _ => Bool) true (fun c _ ih => iteN (Nat.beq (getN s c) 0) ih false) l
def putN (l : List Nat) (v : Nat) : List Nat → List Nat := @List.rec Nat (fun _ => List Nat → List Nat) (fun s => s) (fun i _ ih s => ih (setN s i v)) l
def tellN (s : List Nat) (p : Nat) (l : List Nat) : List Nat := setN s p (iteN (all1N s l) 1 (iteN (all0N s l) 0 2))
def tellsN (l : List (Nat × List Nat)) : List Nat → List Nat := @List.rec (Nat × List Nat) (fun _ => List Nat → List Nat) (fun s => s) (fun p _ ih s => ih (tellN s p.1 p.2)) l
def flipN (l : List Nat) : List Nat → List Nat := @List.rec Nat (fun _ => List Nat → List Nat) (fun s => s) (fun b _ ih s => ih (setN s b (iteN (Nat.beq (getN s b) 0) 1 0))) l
def cntN (s : List Nat) (l : List Nat) : Nat := @List.rec Nat (fun _ => Nat) 0 (fun b _ ih => iteN (Nat.beq (getN s b) 1) (Nat.add ih 1) ih) l
structure TN where
  ab : List (List (Nat × List Nat))
  go : List (List Nat)
  dn : List (List Nat)
  lv : List Nat
  inn : List (Nat × List Nat)
  n : Nat
deriving DecidableEq
def keptN (mu mo : Bool) (lv : List Nat) (s a : List Nat) : List Nat := iteN (mo && Nat.blt 2 (cntN a lv)) s (iteN (mu && (Nat.beq (cntN a lv) 0 && !Nat.beq (cntN s lv) 0)) s a)
def onN (tk : Bool) (x : Nat) : Bool := Nat.beq x 0 || (Nat.beq x 2 && tk)
def clickN (tk al : Bool) (s : List Nat) (b : Nat) (dn go : List Nat) (ab : List (Nat × List Nat)) : List Nat :=
  iteN (onN tk (getN s b)) (tellsN ab (iteN al (putN go 0 (putN dn 1 s)) (putN dn 1 s))) (tellsN ab (putN dn 0 s))
def afterN (tk al : Bool) (T : TN) (s : List Nat) : Dd → List Nat
  | .click b => clickN tk al s b (T.dn.getD b []) (T.go.getD b []) (T.ab.getD b [])
  | .turn => tellsN T.inn (flipN T.lv s)
  | .all => List.replicate T.n 1
  | .none => List.replicate T.n 0
def stepN (tk al mu mo : Bool) (T : TN) (s : List Nat) (d : Dd) : List Nat := keptN mu mo T.lv s (afterN tk al T s d)
def codeN (s : List Nat) : Nat := @List.rec Nat (fun _ => Nat) 0 (fun x _ ih => Nat.add x (Nat.mul 4 ih)) s
def forceN {β : Type} (s : List Nat) : (List Nat → β) → β := @List.rec Nat (fun _ => (List Nat → β) → β) (fun k => k []) (fun x _ ih k => @Nat.rec (fun _ => β) (ih fun r => k (0 :: r)) (fun y _ => @Nat.rec (fun _ => β) (ih fun r => k (1 :: r)) (fun _ _ => ih fun r => k (2 :: r)) y) x) s
def litN {β : Type} (x : Nat) (k : Nat → β) : β := @Nat.rec (fun _ => β) (k 0) (fun n _ => k (Nat.succ n)) x
/-- what is new -/
def newsN (L : List (List Nat)) : Nat → List (List Nat) → (Nat → List (List Nat) → Bool) → Bool := @List.rec (List Nat) (fun _ => Nat → List (List Nat) → (Nat → List (List Nat) → Bool) → Bool) (fun V A k => k V A)
  (fun s _ ih V A k => forceN s fun s => litN (codeN s) fun c => iteN (Nat.beq (Nat.land (Nat.shiftRight V c) 1) 1) (ih V A k) (litN (Nat.lor V (Nat.shiftLeft 1 c)) fun V => ih V (s :: A) k)) L
def layN (f : List Nat → Dd → List Nat) (ds : List Dd) : Nat → Nat → List (List Nat) → Bool
  | _, _, [] => true
  | 0, _, _ :: _ => false
  | n + 1, V, s :: F => newsN ((s :: F).flatMap fun s => ds.map (f s)) V [] (layN f ds n)
def tabN (own : Bool) (t : List Nat) : TN where
  ab := (List.range t.length).map fun b => (abv t b).map fun a => (a, ch t a)
  go := (List.range t.length).map fun b => (sis t b).flatMap fun s => if s == b then [] else s :: bel t s
  dn := (List.range t.length).map fun b => b :: if own then [] else bel t b
  lv := lvs t
  inn := ((List.range t.length).reverse.filter fun b => !(lvs t).contains b).map fun b => (b, ch t b)
  n := t.length
def dsN (n : Nat) : List Dd := (List.range n).map Dd.click ++ [.all, .none, .turn]
def flagsN : List Bool := [true, false]
def chkN (T : TN) : Bool := flagsN.all fun tk => flagsN.all fun al => flagsN.all fun mu => flagsN.all fun mo => layN (stepN tk al mu mo T) (dsN T.n) 8 1 [List.replicate T.n 0]
end
theorem all_c {p : List Nat → Prop} {x : List Nat} {l : List (List Nat)} (h : p x) (hl : ∀ t ∈ l, p t) : ∀ t ∈ x :: l, p t := List.forall_mem_cons.mpr ⟨h, hl⟩
end Tk
set_option linter.all false
set_option Elab.async false
set_option maxRecDepth 100000
set_option maxHeartbeats 1000000
/-! K02Dq: the plain step is the step; what the check says. -/
namespace Tk
open PySem
def toI (s : List Nat) : List Int := s.map fun (x : Nat) => (x : Int)
theorem iteN_eq {β : Type} (b : Bool) (x y : β) : iteN b x y = if b then x else y := by cases b <;> rfl
theorem getN_eq : ∀ (s : List Nat) (i : Nat), getN s i = s.getD i 0
  | [], i => by simp [getN]
  | x :: s, 0 => rfl
  | x :: s, i + 1 => by
    have := getN_eq s i
    show getN s i = _
    simpa using this
theorem setN_eq : ∀ (s : List Nat) (i v : Nat), setN s i v = s.set i v
  | [], i, v => by simp [setN]
  | x :: s, 0, v => rfl
  | x :: s, i + 1, v => by
    show x :: setN s i v = _
    rw [setN_eq s i v]; rfl
theorem intb {x k : Nat} (h : x ≠ k) : ((x : Int) == (k : Int)) = false := beq_eq_false_iff_ne.mpr fun e => h (by omega)
theorem toI_get {s : List Nat} {i : Nat} : (toI s).getD i 0 = ((s.getD i 0 : Nat) : Int) := by
  unfold toI
  rw [List.getD_eq_getElem?_getD, List.getD_eq_getElem?_getD, List.getElem?_map]
  cases s[i]? <;> simp
theorem toI_set {s : List Nat} {i v : Nat} : toI (s.set i v) = (toI s).set i (v : Int) := by
  unfold toI
  rw [List.map_set]
theorem toI_put {v : Nat} : ∀ {l s : List Nat}, toI (putN l v s) = putAll (toI s) l (v : Int)
  | [], s => rfl
  | i :: l, s => by
    show toI (putN l v (setN s i v)) = _
    rw [toI_put, setN_eq, toI_set]; rfl
theorem all1_eq {s : List Nat} : ∀ {l : List Nat}, all1N s l = (l.map fun k => (toI s).getD k 0).all fun v => v == 1
  | [] => rfl
  | c :: l => by
    show iteN (Nat.beq (getN s c) 1) (all1N s l) false = _
    rw [iteN_eq, all1_eq, List.map_cons, List.all_cons, toI_get, getN_eq]
    cases h : Nat.beq (s.getD c 0) 1 with
    | true => rw [Nat.eq_of_beq_eq_true h]; rfl
    | false =>
      have : s.getD c 0 ≠ 1 := Nat.ne_of_beq_eq_false h
      have e : (((s.getD c 0 : Nat) : Int) == 1) = false := intb this
      rw [e]; rfl
theorem all0_eq {s : List Nat} : ∀ {l : List Nat}, all0N s l = (l.map fun k => (toI s).getD k 0).all fun v => v == 0
  | [] => rfl
  | c :: l => by
    show iteN (Nat.beq (getN s c) 0) (all0N s l) false = _
    rw [iteN_eq, all0_eq, List.map_cons, List.all_cons, toI_get, getN_eq]
    cases h : Nat.beq (s.getD c 0) 0 with
    | true => rw [Nat.eq_of_beq_eq_true h]; rfl
    | false =>
      have : s.getD c 0 ≠ 0 := Nat.ne_of_beq_eq_false h
      have e : (((s.getD c 0 : Nat) : Int) == 0) = false := intb this
      rw [e]; rfl
theorem toI_tell {t : List Nat} {s : List Nat} {p : Nat} : toI (tellN s p (ch t p)) = tellP "half" t (toI s) p := by
  unfold tellN tellP toldP
  rw [setN_eq, toI_set, iteN_eq, iteN_eq, all1_eq, all0_eq]
  have h1 : (("half" : Str) == "any") = false := rfl
  have h2 : (("half" : Str) == "every") = false := rfl
  rw [h1, h2]
  cases ((ch t p).map fun k => (toI s).getD k 0).all fun v => v == 1 <;> cases ((ch t p).map fun k => (toI s).getD k 0).all fun v => v == 0 <;> rfl
theorem toI_tells {t : List Nat} : ∀ {l : List Nat} {s : List Nat}, toI (tellsN (l.map fun a => (a, ch t a)) s) = liftP "half" t l (toI s)
  | [], s => rfl
  | a :: l, s => by
    show toI (tellsN (l.map fun a => (a, ch t a)) (tellN s a (ch t a))) = _
    rw [toI_tells, toI_tell]; rfl
theorem toI_flip : ∀ {l : List Nat} {s : List Nat}, (∀ b, s.getD b 0 ≤ 1 ∨ b ∉ l) → toI (flipN l s) = l.foldl (fun a b => a.set b (1 - a.getD b 0)) (toI s)
  | [], s, h => rfl
  | b :: l, s, h => by
    show toI (flipN l (setN s b (iteN (Nat.beq (getN s b) 0) 1 0))) = _
    have hb : s.getD b 0 ≤ 1 := (h b).resolve_right (by simp)
    obtain ⟨v, hv⟩ : ∃ v, v = iteN (Nat.beq (getN s b) 0) 1 0 := ⟨_, rfl⟩
    have hv1 : v ≤ 1 := by rw [hv, iteN_eq]; split <;> omega
    have hvi : (v : Int) = 1 - (toI s).getD b 0 := by
      rw [toI_get, hv, iteN_eq, getN_eq]
      cases q : Nat.beq (s.getD b 0) 0 with
      | true => rw [Nat.eq_of_beq_eq_true q]; rfl
      | false =>
        have : s.getD b 0 ≠ 0 := Nat.ne_of_beq_eq_false q
        have : s.getD b 0 = 1 := by omega
        rw [this]; rfl
    rw [← hv, setN_eq, toI_flip, toI_set, hvi]
    · rfl
    · intro c
      by_cases hc : c ∈ l
      · left
        rw [List.getD_eq_getElem?_getD, List.getElem?_set]
        split
        · split
          · simpa using hv1
          · simp
        · have := (h c).resolve_right (by simp [hc])
          rwa [List.getD_eq_getElem?_getD] at this
      · exact .inr hc
theorem cnt_eq {s : List Nat} : ∀ {l : List Nat}, cntN s l = (l.filter fun b => (toI s).getD b 0 == 1).length
  | [] => rfl
  | c :: l => by
    show iteN (Nat.beq (getN s c) 1) (Nat.add (cntN s l) 1) (cntN s l) = _
    rw [iteN_eq, cnt_eq, List.filter_cons, toI_get, getN_eq]
    cases h : Nat.beq (s.getD c 0) 1 with
    | true => rw [Nat.eq_of_beq_eq_true h]; rfl
    | false =>
      have : s.getD c 0 ≠ 1 := Nat.ne_of_beq_eq_false h
      have e : (((s.getD c 0 : Nat) : Int) == 1) = false := intb this
      rw [e]; rfl
def sB (b : Bool) (x y : Str) : Str := if b then x else y
def wayN (own tk al mu mo : Bool) : Wy := ⟨sB own "own" "all", sB tk "tick" "clear", "half", if al then 1 else 0, if mu then 1 else 0, if mo then 2 else 0⟩
variable {own tk al mu mo : Bool} {t : List Nat} {s : List Nat}
theorem range_get {α : Type} {n b : Nat} {f : Nat → α} {z : α} (h : b < n) : ((List.range n).map f).getD b z = f b := by
  rw [List.getD_eq_getElem?_getD, List.getElem?_map, List.getElem?_range h]; rfl
theorem put_put (vs : List Int) (a b : List Nat) (v : Int) : putAll (putAll vs a v) b v = putAll vs (a ++ b) v := by
  unfold putAll; rw [List.foldl_append]
theorem sist_put {t : List Nat} {b : Nat} {vs : List Int} : sistP t b vs = putAll vs ((sis t b).flatMap fun s => if s == b then [] else s :: bel t s) 0 := by
  unfold sistP
  induction sis t b generalizing vs with
  | nil => rfl
  | cons x l ih =>
    rw [List.foldl_cons, ih, List.flatMap_cons]
    split
    · rfl
    · rw [put_put]
theorem val_eqN : valP (wayN own tk al mu mo) ((s.getD b 0 : Nat) : Int) = if onN tk (s.getD b 0) then 1 else 0 := by
  unfold valP onN
  have h : ((wayN own tk al mu mo).hf == "tick") = tk := by cases tk <;> rfl
  rw [h]
  generalize s.getD b 0 = x
  match x with
  | 0 => rfl
  | 1 => rfl
  | 2 => rfl
  | x + 3 =>
    have e1 : (((x + 3 : Nat) : Int) == 0) = false := by simp; omega
    have e2 : (((x + 3 : Nat) : Int) == 2) = false := by simp; omega
    rw [e1, e2]; rfl
theorem toI_click (hb : b < t.length) : toI (afterN tk al (tabN own t) s (.click b)) = clickP (wayN own tk al mu mo) t (toI s) b := by
  have hd : (tabN own t).dn.getD b [] = downP (wayN own tk al mu mo) t b := by
    show ((List.range t.length).map fun b => b :: if own = true then [] else bel t b).getD b [] = _
    rw [range_get hb]
    cases own <;> rfl
  have hg : (tabN own t).go.getD b [] = (sis t b).flatMap fun s => if s == b then [] else s :: bel t s := range_get hb
  have ha : (tabN own t).ab.getD b [] = (abv t b).map fun a => (a, ch t a) := range_get hb
  show toI (clickN tk al s b ((tabN own t).dn.getD b []) ((tabN own t).go.getD b []) ((tabN own t).ab.getD b [])) = _
  rw [hd, hg, ha]
  unfold clickN clickP
  have hn : ((wayN own tk al mu mo).up == "none") = false := rfl
  have hl : (wayN own tk al mu mo).up = "half" := rfl
  have hal : ((wayN own tk al mu mo).al == 1) = al := by cases al <;> rfl
  simp only [toI_get, val_eqN, hn, hal, hl, iteN_eq, getN_eq, sist_put]
  generalize onN tk (s.getD b 0) = q
  have hh : ¬ (("half" : Str) = "none") := by decide
  cases q <;> cases al <;> simp [toI_tells, toI_put, hh]
theorem filter_fold {α β : Type} {p : β → Bool} {f : α → β → α} : ∀ {l : List β} {a : α}, l.foldl (fun a b => if p b then a else f a b) a = (l.filter fun b => !p b).foldl f a
  | [], a => rfl
  | b :: l, a => by
    rw [List.foldl_cons, filter_fold, List.filter_cons]
    cases p b <;> rfl
theorem toI_turn (h : ∀ b, s.getD b 0 ≤ 1 ∨ b ∉ lvs t) : toI (afterN tk al (tabN own t) s .turn) = turnP (wayN own tk al mu mo) t (toI s) := by
  show toI (tellsN (((List.range t.length).reverse.filter fun b => !(lvs t).contains b).map fun b => (b, ch t b)) (flipN (lvs t) s)) = _
  rw [toI_tells, toI_flip h]
  unfold turnP
  have hn : ((wayN own tk al mu mo).up == "none") = false := rfl
  have hl : (wayN own tk al mu mo).up = "half" := rfl
  simp only [hn, hl]
  rw [filter_fold]
  rfl
theorem toI_rep {n v : Nat} : toI (List.replicate n v) = List.replicate n (v : Int) := by simp [toI]
theorem toI_step {d : Dd} (hd : d.ok t) (h : ∀ b, s.getD b 0 ≤ 1 ∨ b ∉ lvs t) : toI (stepN tk al mu mo (tabN own t) s d) = stepP (wayN own tk al mu mo) t (toI s) d := by
  have ha : toI (afterN tk al (tabN own t) s d) = afterP (wayN own tk al mu mo) t (toI s) d := by
    cases d with
    | click b => exact toI_click hd
    | turn => exact toI_turn h
    | all => exact toI_rep
    | none => exact toI_rep
  unfold stepN stepP keptN keptP
  have hmo : ((wayN own tk al mu mo).mo == 2) = mo := by cases mo <;> rfl
  have hmu : ((wayN own tk al mu mo).mu == 1) = mu := by cases mu <;> rfl
  rw [← ha, hmo, hmu, iteN_eq, iteN_eq]
  have c : ∀ a : List Nat, cntN a (tabN own t).lv = (tickP t (toI a)).length := fun a => cnt_eq
  rw [c, c]
  generalize tickP t (toI (afterN tk al (tabN own t) s d)) = A
  generalize tickP t (toI s) = B
  have e1 : Nat.blt 2 A.length = decide (2 < (A.length : Int)) := by
    cases q : Nat.blt 2 A.length with
    | true =>
      have : 2 < A.length := by simpa [Nat.blt_eq] using q
      symm; simp; omega
    | false =>
      have : ¬ 2 < A.length := by
        intro h
        have := (Nat.blt_eq (x := 2) (y := A.length)).mpr h
        rw [this] at q; cases q
      symm; simp; omega
  have e2 : Nat.beq A.length 0 = ((A.length : Int) == 0) := by cases A <;> rfl
  have e3 : (!Nat.beq B.length 0) = !B.isEmpty := by cases B <;> rfl
  rw [e1, e2, e3]
  cases mo && decide (2 < (A.length : Int)) <;> cases mu && (((A.length : Int) == 0) && !B.isEmpty) <;> rfl
end Tk
set_option linter.all false
set_option Elab.async false
set_option maxRecDepth 100000
set_option maxHeartbeats 1000000
/-! TkReach: what rows_of and the law's _law_reach compute. -/
namespace Tk
open PySem
def isNn : D → Bool
  | .none => true
  | _ => false
@[simp] theorem u_isNn0 : isNn .none = true := rfl
@[simp] theorem u_isNnL {l : List D} : isNn (.list l) = false := rfl
@[simp] theorem u_isNnT {l : List D} : isNn (.tuple l) = false := rfl
@[simp] theorem u_isNnI {i : Int} : isNn (.int i) = false := rfl
@[simp] theorem x_isn {F : Tab} {e : E} {ρ : Env} {δ : DS} : ev F (.isn false e) ρ δ = (ev F e ρ δ).bind fun x δ => .ok (.bool (isNn x)) δ := by
  simp only [ev]
  congr 1
@[simp] theorem x_isnN {F : Tab} {e : E} {ρ : Env} {δ : DS} : ev F (.isn true e) ρ δ = (ev F e ρ δ).bind fun x δ => .ok (.bool (!isNn x)) δ := by
  simp only [ev]
  congr 1
  funext x δ
  cases x <;> rfl
@[simp] theorem sx_rai {F : Tab} {c : Str} {ρ : Env} {δ : DS} : exec F (.rai c) ρ δ = .er c δ := rfl
@[simp] theorem u_outEr {c : Str} {δ : DS} : outP (.er c δ) = .er c := rfl
abbrev tbD (T : Tb (List Int) Dd) : D := .dict (kvD stD rowD T)
theorem tb_nin {T : Tb (List Int) Dd} {s : List Int} : cmD .nin (stD s) (tbD T) = some (!hasT T s) := by
  show (if isKey (stD s) = true then some (!(dget (kvD stD rowD T) (stD s)).isSome) else none) = _
  rw [if_pos (isKey_st s), kv_has encS]
theorem tb_isin {T : Tb (List Int) Dd} {s : List Int} : cmD .isin (stD s) (tbD T) = some (hasT T s) := by
  show (if isKey (stD s) = true then some ((dget (kvD stD rowD T) (stD s)).isSome) else none) = _
  rw [if_pos (isKey_st s), kv_has encS]
theorem tb_ix {T : Tb (List Int) Dd} {x : List Int × List Dd} (hn : (keysT T).Nodup) (hx : x ∈ T) : ixD (tbD T) (stD x.1) = some (rowD x.2) := by
  show (if isKey (stD x.1) = true then dget (kvD stD rowD T) (stD x.1) else none) = _
  rw [if_pos (isKey_st _), kv_at encS hn hx]
theorem sts_ix {l : List (List Int)} {h : Nat} {s : List Int} (e : l[h]? = some s) : ixD (stsD l) (.int h) = some (stD s) := by
  show L2.atI (l.map stD) (h : Int) = _
  unfold L2.atI
  have hl := (List.getElem?_eq_some_iff.mp e).1
  rw [show L2.ixN (l.map stD).length (h : Int) = some h by
    unfold L2.ixN
    rw [List.length_map, if_pos (by omega), if_pos (by omega)]
    simp]
  simp [e]
theorem row_snoc {r : List Dd} {d : Dd} (h : r.length + 1 ≤ big) : opD .add (rowD r) (.list [deedD d]) = some (rowD (r ++ [d])) := by
  simp only [rowD, opD, List.length_map, List.length_cons, List.length_nil, h, if_true, List.map_append, List.map_cons, List.map_nil]
@[simp] theorem row_sc {r : List Dd} : scalar (rowD r) = false := rfl
theorem st_isL {s : List Int} : isL (stD s) = false := rfl
theorem sts_len {l : List (List Int)} : buD .len [stsD l] = some (.int l.length) := by simp [stsD, buD]
theorem can_iL : ∀ l : List Int, PyData.canLayAll0 (iL l) = true
  | [] => rfl
  | x :: l => by
    have := can_iL l
    simp only [iL, List.map_cons, PyData.canLayAll0, PyData.canLay0, Bool.true_and] at this ⊢
    exact this
theorem dep_iL : ∀ l : List Int, PyData.depthAll (iL l) ≤ 1
  | [] => by simp [iL, PyData.depthAll]
  | x :: l => by
    have := dep_iL l
    simp only [iL, List.map_cons, PyData.depthAll, PyData.depth] at this ⊢
    omega
theorem sh_sts {l : List (List Int)} : SeqAt.shaped (stsD l) = true := by
  refine sh_listOf (fun s => ⟨?_, ?_⟩) l
  · simp only [stD, PyData.canLay0]; exact can_iL s
  · have := dep_iL s
    simp only [stD, PyData.depth]; omega
theorem sh_nil : SeqAt.shaped (.list ([] : List D)) = true := by decide
theorem eqv_sts0 {l : List (List Int)} : PyData.eqv (stsD l) (.list []) = l.isEmpty := by
  cases l <;> simp [stsD, PyData.eqv, PyData.eqvAll]
theorem sts_ne {l : List (List Int)} : cmD .ne (stsD l) (.list []) = some (!l.isEmpty) := by
  have h2 : SeqAt.shaped (.list ([] : List D)) = true := by decide
  simp only [cmD, sh_sts, h2, Bool.and_self, if_true]
  cases l <;> simp [stsD, PyData.eqv, PyData.eqvAll]
def RowsLt (T : Tb (List Int) Dd) (n : Nat) : Prop := ∀ x ∈ T, x.2.length ≤ n
/-- rows are no longer than the table -/
theorem bfs_rows {w : Wy} {t : List Nat} {x : List Int × List Dd} : ∀ {l : List Dd} {T : Tb (List Int) Dd} {n : Nat}, RowsLt T n → x.2.length + 1 ≤ n → RowsLt (expd (stepP w t) l T x) n
  | [], T, n, h, _ => h
  | d :: l, T, n, h, hx => by
    refine bfs_rows (l := l) ?_ hx
    unfold exp1
    split
    · exact h
    · intro y hy
      rcases List.mem_append.mp hy with hy | hy
      · exact h y hy
      · simp only [List.mem_cons, List.not_mem_nil, or_false] at hy
        subst hy; simpa using hx
theorem sx_augi {F : Tab} {ρ : Env} {δ δ' : DS} {i : Nat} {e : E} {a b : Int} (h : ρ[i]? = some (.va (.int a))) (he : ev F e ρ δ = .ok (.int b) δ') : exec F (.aug i e) ρ δ = .ok (.nx (ρ.set i (.va (.int (a + b))))) δ' := by
  simp only [exec, look, h, Option.bind_some, Slot.get, he, R.bind_ok, R.ofOpt_some]
section
variable {w : Wy} {t : List Nat}
theorem T_ro_1 : T_rows_of "step" = some (.pu M_step) := rfl
theorem T_ro_2 : T_rows_of "opening" = some (.pu M_opening) := rfl
theorem T_ro_3 : T_rows_of "deeds_of" = some (.pu M_deeds_of) := rfl
abbrev roBody : S := (.sq (.set 7 (.ca "step" (.cons (.v 0) (.cons (.v 1) (.cons (.ix (.v 3) (.v 4)) (.cons (.v 6) .nil))))))
  (.sq (.ifs (.cm .nin (.v 7) (.v 2)) (.sq (.sti 2 (.v 7) (.bin .add (.ix (.v 2) (.ix (.v 3) (.v 4))) (.ls (.cons (.v 6) .nil))))
  (.sq (.app 3 (.v 7))
  .sk)) .sk)
  .sk))
abbrev roEnv (w : Wy) (t : List Nat) (h : Nat) (T : Tb (List Int) Dd) (j : Slot × Slot) : Env := [.va (wayD w), .va (treeD t), .ow (tbD T), .ow (stsD (keysT T)), .va (.int h), .va (rowD (deedsP t)), j.1, j.2]
/-- a table on its way: it began as T0, whose place h is x -/
structure Way (w : Wy) (t : List Nat) (l : List Dd) (x : List Int × List Dd) (h : Nat) (T0 T : Tb (List Int) Dd) : Prop where
  ok : OkT (EntOk w t) T
  pre : ∃ M, T = T0 ++ M
  at_ : T0[h]? = some x
  ds : ∀ d ∈ l, d.ok t
  rows : RowsLt T 243
  rx : x.2.length + 1 ≤ 243
theorem Way.nth {l : List Dd} {x : List Int × List Dd} {h : Nat} {T0 T : Tb (List Int) Dd} (W : Way w t l x h T0 T) : T[h]? = some x ∧ (keysT T)[h]? = some x.1 ∧ x ∈ T := by
  obtain ⟨M, e⟩ := W.pre
  have hl := (List.getElem?_eq_some_iff.mp W.at_).1
  have h1 : T[h]? = some x := by rw [e, List.getElem?_append_left hl]; exact W.at_
  exact ⟨h1, by simp [keysT, h1], List.mem_of_getElem? h1⟩
theorem Way.next {l : List Dd} {x : List Int × List Dd} {h : Nat} {T0 T : Tb (List Int) Dd} {d : Dd} (hw : w.ok) (ht : t ∈ trees) (W : Way w t (d :: l) x h T0 T) : Way w t l x h T0 (exp1 (stepP w t) x T d) := by
  have hx := W.ok.2 x W.nth.2.2
  obtain ⟨M, e⟩ := W.pre
  obtain ⟨M', e'⟩ := exp1_pre (stepP w t) x T d
  exact ⟨OkT.exp1 W.ok (entOk_step (ds := d :: l) hw ht W.ds x.1 x.2 d (by simp) hx), ⟨M ++ M', by rw [e', e, List.append_assoc]⟩, W.at_, fun d' h' => W.ds d' (by simp [h']), bfs_rows (l := [d]) W.rows W.rx, W.rx⟩
theorem ro_turn {l : List Dd} {x : List Int × List Dd} {h : Nat} {T0 T : Tb (List Int) Dd} {d : Dd} {j : Slot × Slot} (hw : w.ok) (ht : t ∈ trees) (W : Way w t (d :: l) x h T0 T) :
    exec T_rows_of roBody ((roEnv w t h T j).set 6 (.va (deedD d))) none = .ok (.nx (roEnv w t h (exp1 (stepP w t) x T d) (.va (deedD d), .va (stD (stepP w t x.1 d))))) none := by
  obtain ⟨n1, n2, n3⟩ := W.nth
  have hx := W.ok.2 x n3
  have e := (e_step (d := d) (s := x.1) hw ht (W.ds d (by simp)) hx.1.1.1).1
  have e0 : M_step [wayD w, treeD t, stD x.1, deedD d] = .ok (stD (stepP w t x.1 d)) := e
  have i1 := sts_ix n2
  have hl := okT_len ht W.ok
  have hb : x.2.length + 1 ≤ big := by have := W.rx; unfold big; omega
  have hb2 : (keysT T).length < big := by simp only [keysT, List.length_map]; unfold big; omega
  have hb3 : (kvD stD rowD T).length < big := by rw [kv_len]; unfold big; omega
  have i2 := tb_ix W.ok.1 n3
  unfold exp1
  cases hc : hasT T (stepP w t x.1 d) with
  | true => simp [T_ro_1, i1, e0, tb_nin, hc]
  | false =>
    have p1 := kv_put (enc := stD) (val := rowD) encS (r := x.2 ++ [d]) hc
    have hk := isKey_st (stepP w t x.1 d)
    have hK : stsD (keysT (T ++ [(stepP w t x.1 d, x.2 ++ [d])])) = .list ((keysT T).map stD ++ [stD (stepP w t x.1 d)]) := by simp [stsD, keysT]
    have n1 := tb_nin (T := T) (s := stepP w t x.1 d)
    rw [hc] at n1
    simp only [roEnv, tbD, hK, stsD] at i1 i2 n1 ⊢
    simp [T_ro_1, i1, e0, n1, i2, row_snoc hb, stiR, hk, hb3, p1, appR, hb2, d_sc]
    simp [keysT]
theorem ro_fors {h : Nat} {x : List Int × List Dd} {T : Tb (List Int) Dd} {j : Slot × Slot} (hw : w.ok) (ht : t ∈ trees) (W : Way w t (deedsP t) x h T T) :
    ∃ j', loopF (.n 6) (exec T_rows_of roBody) ((deedsP t).map deedD) (roEnv w t h T j) none = .ok (.nx (roEnv w t h (expd (stepP w t) (deedsP t) T x) j')) none ∧ Way w t [] x h T (expd (stepP w t) (deedsP t) T x) := by
  have key := loopF_okL (h := deedD) (tg := .n 6) (b := exec T_rows_of roBody) (δ := none) (fun (T : Tb (List Int) Dd) (j : Slot × Slot) => roEnv w t h T j) (exp1 (stepP w t) x) (fun l T' => Way w t l x h T T') (fun T' j d l W => ⟨W.next hw ht, _, _, rfl, ro_turn hw ht W⟩) (deedsP t) T j W
  obtain ⟨h1, j', h2⟩ := key
  exact ⟨j', h2, h1⟩
theorem e_rows_of (hw : w.ok) (ht : t ∈ trees) : M_rows_of [wayD w, treeD t] = .ok (tbD (reachT w t (deedsP t) (firstP t))) := by
  have s2 := loopW_ex (c := evB T_rows_of (.cm .lt (.v 4) (.bu .len (.cons (.v 3) .nil)))) (b := exec T_rows_of (.sq (.fors (.n 6) (.sq (.v 5)) roBody) (.sq (.aug 4 (.k (.int 1))) .sk)))
    (fun n ρ δ => ∃ T h j, δ = none ∧ ρ = roEnv w t h T j ∧ OkT (EntOk w t) T ∧ h + n = 243 ∧ RowsLt T h ∧ bfsN (stepP w t) (deedsP t) n T h = reachT w t (deedsP t) (firstP t)) (fun ρ δ => ∃ h j, δ = none ∧ ρ = roEnv w t h (reachT w t (deedsP t) (firstP t)) j) (by
      rintro n ρ δ ⟨T, h, j, rfl, rfl, ok, hn, hr, eb⟩
      have hl := okT_len ht ok
      have hkl : (keysT T).length = T.length := by simp [keysT]
      by_cases hlt : h < T.length
      · obtain ⟨n, rfl⟩ : ∃ m, n = m + 1 := ⟨n - 1, by omega⟩
        obtain ⟨x, hx⟩ : ∃ x, T[h]? = some x := ⟨T[h], List.getElem?_eq_getElem hlt⟩
        simp only [bfsN, hx] at eb
        have hrx : x.2.length + 1 ≤ h + 1 := by have := hr x (List.mem_of_getElem? hx); omega
        have W : Way w t (deedsP t) x h T T := ⟨ok, ⟨[], by simp⟩, hx, fun d hd => deedsP_ok hd, fun y hy => by have := hr y hy; omega, by omega⟩
        obtain ⟨j', e1, W'⟩ := ro_fors (j := j) hw ht W
        refine .inr ⟨n, rfl, ?_, roEnv w t (h + 1) (expd (stepP w t) (deedsP t) T x) j', none, ?_, _, h + 1, j', rfl, rfl, W'.ok, by omega, ?_, eb⟩
        · simp [sts_len, hkl]; omega
        · have ei : itemsD (rowD (deedsP t)) = some ((deedsP t).map deedD) := rfl
          have ef : frz (roEnv w t h T j) [5] = roEnv w t h T j := rfl
          have e2 : exec T_rows_of (.aug 4 (.k (.int 1))) (roEnv w t h (expd (stepP w t) (deedsP t) T x) j') none = .ok (.nx (roEnv w t (h + 1) (expd (stepP w t) (deedsP t) T x) j')) none := (sx_augi rfl (x_k)).trans rfl
          simp [ei, e1, e2]
        · exact bfs_rows (fun y hy => by have := hr y hy; omega) hrx
      · have en : T[h]? = none := List.getElem?_eq_none_iff.mpr (by omega)
        rw [bfs_end en] at eb
        refine .inl ⟨?_, h, j, rfl, by rw [eb]⟩
        simp [sts_len, hkl]; omega) 100000 243 (roEnv w t 0 [(firstP t, [])] (.no, .no)) none (by decide)
      ⟨[(firstP t, [])], 0, (.no, .no), rfl, rfl, okT_one Fine.first, rfl, fun x hx => by simp at hx; subst hx; simp, rfl⟩
  obtain ⟨ρ', δ', e3, h, j, rfl, rfl⟩ := s2
  refine runP_ok (δ := none) rfl ?_
  have s1 : exec T_rows_of (.sets [2, 3, 4, 5] (.cons (.d1 (.ca "opening" (.cons (.v 1) .nil)) (.ls .nil)) (.cons (.ls (.cons (.ca "opening" (.cons (.v 1) .nil)) .nil)) (.cons (.k (.int 0)) (.cons (.ca "deeds_of" (.cons (.v 1) .nil)) .nil))))) [.va (wayD w), .va (treeD t), .no, .no, .no, .no, .no, .no] none = .ok (.nx (roEnv w t 0 [(firstP t, [])] (.no, .no))) none := by
    have hk := isKey_st (firstP t)
    simp [T_ro_2, T_ro_3, e_opening ht, e_deeds ht, hk, tbD, kvD, rowD, stsD, keysT]
    rfl
  refine (seq_nx s1).trans ?_
  have e4 : exec T_rows_of (.wh (.cm .lt (.v 4) (.bu .len (.cons (.v 3) .nil))) (.sq (.fors (.n 6) (.sq (.v 5)) roBody) (.sq (.aug 4 (.k (.int 1))) .sk))) (roEnv w t 0 [(firstP t, [])] (.no, .no)) none = .ok (.nx (roEnv w t h (reachT w t (deedsP t) (firstP t)) j)) none := e3
  refine (seq_nx e4).trans ?_
  simp

/-! ### the law's own -/
theorem T_lre_1 : T_law_reach "_law_step" = some (.pu M_law_step) := rfl
abbrev lrBody : S := (.sq (.set 9 (.ca "_law_step" (.cons (.v 0) (.cons (.v 1) (.cons (.v 7) (.cons (.v 8) .nil))))))
  (.sq (.ifs (.cm .nin (.v 9) (.v 4)) (.sq (.sti 4 (.v 9) (.bin .add (.ix (.v 4) (.v 7)) (.ls (.cons (.v 8) .nil))))
  (.sq (.app 6 (.v 9))
  .sk)) .sk)
  .sk))
/-- layer: the states from place h0 on of the first n0; fresh: those behind n0 -/
abbrev lrEnv (w : Wy) (t : List Nat) (ds : List Dd) (s0 : List Int) (sl : Slot) (n0 : Nat) (T : Tb (List Int) Dd) (j : Slot × Slot × Slot) : Env := [.va (wayD w), .va (treeD t), .va (rowD ds), .va (stD s0), .ow (tbD T), sl, .ow (stsD ((keysT T).drop n0)), j.1, j.2.1, j.2.2]
theorem lr_turn {ds l : List Dd} {s0 : List Int} {sl : Slot} {n0 : Nat} {x : List Int × List Dd} {h : Nat} {T0 T : Tb (List Int) Dd} {d : Dd} {j : Slot × Slot} (hw : w.ok) (ht : t ∈ trees) (hn : n0 ≤ T.length) (W : Way w t (d :: l) x h T0 T) :
    exec T_law_reach lrBody ((lrEnv w t ds s0 sl n0 T (.va (stD x.1), j)).set 8 (.va (deedD d))) none = .ok (.nx (lrEnv w t ds s0 sl n0 (exp1 (stepP w t) x T d) (.va (stD x.1), .va (deedD d), .va (stD (stepP w t x.1 d))))) none := by
  obtain ⟨n1, n2, n3⟩ := W.nth
  have hx := W.ok.2 x n3
  have e := e_lstep (d := d) (s := x.1) hw ht (W.ds d (by simp)) hx.1.1.1
  rw [← step_eq hw ht (W.ds d (by simp)) hx.1.1] at e
  have e0 : M_law_step [wayD w, treeD t, stD x.1, deedD d] = .ok (stD (stepP w t x.1 d)) := e
  have hl := okT_len ht W.ok
  have hb : x.2.length + 1 ≤ big := by have := W.rx; unfold big; omega
  have hb2 : (keysT T).length - n0 < big := by simp only [keysT, List.length_map]; unfold big; omega
  have hb3 : (kvD stD rowD T).length < big := by rw [kv_len]; unfold big; omega
  have i2 := tb_ix W.ok.1 n3
  unfold exp1
  cases hc : hasT T (stepP w t x.1 d) with
  | true => simp [T_lre_1, e0, tb_nin, hc]
  | false =>
    have p1 := kv_put (enc := stD) (val := rowD) encS (r := x.2 ++ [d]) hc
    have hk := isKey_st (stepP w t x.1 d)
    have hK : stsD ((keysT (T ++ [(stepP w t x.1 d, x.2 ++ [d])])).drop n0) = .list (((keysT T).drop n0).map stD ++ [stD (stepP w t x.1 d)]) := by
      have : keysT (T ++ [(stepP w t x.1 d, x.2 ++ [d])]) = keysT T ++ [stepP w t x.1 d] := by simp [keysT]
      rw [this, List.drop_append_of_le_length (by simpa [keysT] using hn)]
      simp [stsD]
    have n1 := tb_nin (T := T) (s := stepP w t x.1 d)
    rw [hc] at n1
    simp only [if_false, Bool.false_eq_true, lrEnv, hK]
    simp only [tbD, stsD] at i2 n1 ⊢
    simp [T_lre_1, e0, n1, i2, row_snoc hb, stiR, hk, hb3, p1, appR, hb2, d_sc]
theorem lr_fors {ds : List Dd} {s0 : List Int} {sl : Slot} {n0 : Nat} {h : Nat} {x : List Int × List Dd} {T : Tb (List Int) Dd} {j : Slot × Slot} (hw : w.ok) (ht : t ∈ trees) (hn : n0 ≤ T.length) (W : Way w t ds x h T T) :
    ∃ j', loopF (.n 8) (exec T_law_reach lrBody) (ds.map deedD) (lrEnv w t ds s0 sl n0 T (.va (stD x.1), j)) none = .ok (.nx (lrEnv w t ds s0 sl n0 (expd (stepP w t) ds T x) (.va (stD x.1), j'))) none ∧ Way w t [] x h T (expd (stepP w t) ds T x) := by
  have key := loopF_okL (h := deedD) (tg := .n 8) (b := exec T_law_reach lrBody) (δ := none) (fun (T' : Tb (List Int) Dd) (j : Slot × Slot) => lrEnv w t ds s0 sl n0 T' (.va (stD x.1), j)) (exp1 (stepP w t) x) (fun l T' => Way w t l x h T T' ∧ n0 ≤ T'.length) (fun T' j d l W => by
    refine ⟨⟨W.1.next hw ht, ?_⟩, _, _, rfl, lr_turn hw ht W.2 W.1⟩
    obtain ⟨M, e⟩ := exp1_pre (stepP w t) x T' d
    rw [e, List.length_append]; have := W.2; omega) ds T j ⟨W, hn⟩
  obtain ⟨h1, j', h2⟩ := key
  exact ⟨j', h2, h1.1⟩
/-- one layer -/
theorem lr_layer {ds : List Dd} {s0 : List Int} {sl : Slot} {n0 : Nat} (hw : w.ok) (ht : t ∈ trees) (hd : ∀ d ∈ ds, d.ok t) : ∀ (xs : Tb (List Int) Dd) (R' T : Tb (List Int) Dd) (h : Nat) (j : Slot × Slot × Slot), T.drop h = xs ++ R' → n0 ≤ T.length → OkT (EntOk w t) T → RowsLt T h → h + xs.length ≤ 243 →
    ∃ j', loopF (.n 7) (exec T_law_reach (.sq (.fors (.n 8) (.sq (.v 2)) lrBody) .sk)) (xs.map fun x => stD x.1) (lrEnv w t ds s0 sl n0 T j) none = .ok (.nx (lrEnv w t ds s0 sl n0 (xs.foldl (expd (stepP w t) ds) T) j')) none ∧ OkT (EntOk w t) (xs.foldl (expd (stepP w t) ds) T) ∧ RowsLt (xs.foldl (expd (stepP w t) ds) T) (h + xs.length)
  | [], R', T, h, j, _, _, ok, hr, _ => ⟨j, rfl, ok, by simpa using hr⟩
  | x :: xs, R', T, h, j, e, hn, ok, hr, hb => by
    have hx : T[h]? = some x := by
      have : (T.drop h)[0]? = some x := by rw [e]; rfl
      rwa [List.getElem?_drop] at this
    have e1 : T.drop (h + 1) = xs ++ R' := by
      have : (T.drop h).drop 1 = xs ++ R' := by rw [e]; rfl
      rwa [List.drop_drop] at this
    simp only [List.length_cons] at hb
    obtain ⟨M, em⟩ := expd_pre (stepP w t) x ds T
    have e2 : (expd (stepP w t) ds T x).drop (h + 1) = xs ++ (R' ++ M) := by
      rw [em, List.drop_append_of_le_length (by have := (List.getElem?_eq_some_iff.mp hx).1; omega), e1, List.append_assoc]
    have hrx : x.2.length + 1 ≤ h + 1 := by have := hr x (List.mem_of_getElem? hx); omega
    have W : Way w t ds x h T T := ⟨ok, ⟨[], by simp⟩, hx, hd, fun y hy => by have := hr y hy; omega, by omega⟩
    obtain ⟨j1, f1, W1⟩ := lr_fors (s0 := s0) (sl := sl) (j := (j.2.1, j.2.2)) hw ht hn W
    have hr1 : RowsLt (expd (stepP w t) ds T x) (h + 1) := bfs_rows (fun y hy => by have := hr y hy; omega) hrx
    obtain ⟨j', f2, ok2, hr2⟩ := lr_layer (s0 := s0) (sl := sl) (n0 := n0) hw ht hd xs (R' ++ M) (expd (stepP w t) ds T x) (h + 1) (.va (stD x.1), j1) e2 (by rw [em, List.length_append]; omega) W1.ok hr1 (by omega)
    refine ⟨j', ?_, ok2, by rw [show h + (x :: xs).length = h + 1 + xs.length by simp; omega]; exact hr2⟩
    have b1 : exec T_law_reach (.sq (.fors (.n 8) (.sq (.v 2)) lrBody) .sk) ((lrEnv w t ds s0 sl n0 T j).set 7 (.va (stD x.1))) none = .ok (.nx (lrEnv w t ds s0 sl n0 (expd (stepP w t) ds T x) (.va (stD x.1), j1))) none := by
      have ei : itemsD (rowD ds) = some (ds.map deedD) := rfl
      simp [ei, f1]
    show loopF (.n 7) _ (stD x.1 :: xs.map fun x => stD x.1) _ _ = _
    simp only [loopF]
    rw [show bindT (lrEnv w t ds s0 sl n0 T j) (.n 7) (stD x.1) = some ((lrEnv w t ds s0 sl n0 T j).set 7 (.va (stD x.1))) from rfl]
    simp only [b1, R.bind_ok]
    exact f2
theorem e_lreach {ds : List Dd} {s0 : List Int} (hw : w.ok) (ht : t ∈ trees) (hd : ∀ d ∈ ds, d.ok t) (h0 : Fine w t s0) : M_law_reach [wayD w, treeD t, rowD ds, stD s0] = .ok (tbD (reachT w t ds s0)) := by
  have s2 := loopW_ex (c := evB T_law_reach (.cm .ne (.v 5) (.ls .nil))) (b := exec T_law_reach (.sq (.set 6 (.ls .nil)) (.sq (.fors (.n 7) (.sq (.v 5)) (.sq (.fors (.n 8) (.sq (.v 2)) lrBody) .sk)) (.sq (.set 5 (.v 6)) .sk))))
    (fun n ρ δ => ∃ (T : Tb (List Int) Dd) (h : Nat) (sl s6 : Slot) (j : Slot × Slot × Slot), δ = none ∧ ρ = [.va (wayD w), .va (treeD t), .va (rowD ds), .va (stD s0), .ow (tbD T), sl, s6, j.1, j.2.1, j.2.2] ∧ (sl = .ow (stsD ((keysT T).drop h)) ∨ sl = .va (stsD ((keysT T).drop h))) ∧ OkT (EntOk w t) T ∧ h ≤ T.length ∧ RowsLt T h ∧ ∃ n', h + n' = 243 ∧ n' ≤ n ∧ bfsN (stepP w t) ds n' T h = reachT w t ds s0) (fun ρ δ => ∃ (sl s6 : Slot) (j : Slot × Slot × Slot), δ = none ∧ ρ = [.va (wayD w), .va (treeD t), .va (rowD ds), .va (stD s0), .ow (tbD (reachT w t ds s0)), sl, s6, j.1, j.2.1, j.2.2]) (by
      rintro n ρ δ ⟨T, h, sl, s6, (j : Slot × Slot × Slot), rfl, rfl, hsl, ok, hh, hr, n', hn, hn2, eb⟩
      have hl := okT_len ht ok
      have hkl : (keysT T).length = T.length := by simp [keysT]
      have hk : (keysT T).drop h = (T.drop h).map (·.1) := by simp [keysT]
      by_cases hlt : h < T.length
      · obtain ⟨m, hm⟩ : ∃ m, n' = (T.drop h).length + m := ⟨n' - (T.drop h).length, by simp; omega⟩
        have hdl : (T.drop h).length = T.length - h := by simp
        have hne : ((keysT T).drop h).isEmpty = false := by rw [List.isEmpty_eq_false_iff_exists_mem, hk]; exact ⟨T[h].1, List.mem_map_of_mem (List.mem_of_getElem? (i := 0) (by simp [hlt]))⟩
        rw [hm, bfs_part (T.drop h) [] T h m (by simp)] at eb
        obtain ⟨j', f1, ok1, hr1⟩ := lr_layer (s0 := s0) (sl := .va (stsD ((keysT T).drop h))) (n0 := T.length) hw ht hd (T.drop h) [] T h j (by simp) (Nat.le_refl _) ok hr (by omega)
        obtain ⟨M, em⟩ := part_pre (f := stepP w t) (ds := ds) (T.drop h) T
        have hT : T.length = h + (T.drop h).length := by omega
        have hz : (keysT T).drop T.length = [] := List.drop_eq_nil_of_le (by omega)
        have f0 : lrEnv w t ds s0 (.va (stsD ((keysT T).drop h))) T.length T j = [.va (wayD w), .va (treeD t), .va (rowD ds), .va (stD s0), .ow (tbD T), .va (stsD ((keysT T).drop h)), .ow (stsD []), j.1, j.2.1, j.2.2] := by simp only [lrEnv, hz]
        rw [f0] at f1
        have ei : itemsD (stsD ((keysT T).drop h)) = some ((T.drop h).map fun x => stD x.1) := by rw [hk]; simp [stsD, itemsD, Function.comp_def]
        have hsts : stsD [] = .list [] := rfl
        rw [hsts] at f1
        refine .inr ⟨n - 1, by omega, ?_, [.va (wayD w), .va (treeD t), .va (rowD ds), .va (stD s0), .ow (tbD ((T.drop h).foldl (expd (stepP w t) ds) T)), .va (stsD ((keysT ((T.drop h).foldl (expd (stepP w t) ds) T)).drop T.length)), .va (stsD ((keysT ((T.drop h).foldl (expd (stepP w t) ds) T)).drop T.length)), j'.1, j'.2.1, j'.2.2], none, ?_, (T.drop h).foldl (expd (stepP w t) ds) T, T.length, _, _, j', rfl, rfl, .inr rfl, ok1, by rw [em, List.length_append]; omega, ?_, m, by omega, by omega, ?_⟩
        · rcases hsl with rfl | rfl <;> simp [sh_sts, sh_nil, eqv_sts0, hne]
        · obtain ⟨ys, hys⟩ : ∃ ys, ys = (T.drop h).map fun x => stD x.1 := ⟨_, rfl⟩
          rw [← hys] at f1 ei
          have hsc : ∀ l : List (List Int), scalar (stsD l) = false := fun _ => rfl
          rcases hsl with rfl | rfl <;> simp [ei, f1, hsc]
        · rw [hT]; exact hr1
        · rw [hT]; exact eb
      · have en : T[h]? = none := List.getElem?_eq_none_iff.mpr (by omega)
        rw [bfs_end en] at eb
        have he : (keysT T).drop h = [] := List.drop_eq_nil_of_le (by omega)
        refine .inl ⟨?_, sl, s6, j, rfl, by rw [eb]⟩
        rw [he] at hsl
        rcases hsl with rfl | rfl <;> simp [sh_sts, sh_nil, eqv_sts0]) 100000 243 [.va (wayD w), .va (treeD t), .va (rowD ds), .va (stD s0), .ow (tbD [(s0, [])]), .ow (stsD [s0]), .no, .no, .no, .no] none (by decide)
      ⟨[(s0, [])], 0, _, .no, (.no, .no, .no), rfl, rfl, .inl rfl, okT_one h0, by simp, fun x hx => by simp at hx; subst hx; simp, 243, rfl, Nat.le_refl _, rfl⟩
  obtain ⟨ρ', δ', e3, sl, s6, j, rfl, rfl⟩ := s2
  refine runP_ok (δ := none) rfl ?_
  have s1 : exec T_law_reach (.sets [4, 5] (.cons (.d1 (.v 3) (.ls .nil)) (.cons (.ls (.cons (.v 3) .nil)) .nil))) [.va (wayD w), .va (treeD t), .va (rowD ds), .va (stD s0), .no, .no, .no, .no, .no, .no] none = .ok (.nx [.va (wayD w), .va (treeD t), .va (rowD ds), .va (stD s0), .ow (tbD [(s0, [])]), .ow (stsD [s0]), .no, .no, .no, .no]) none := by
    have hk := isKey_st s0
    simp [hk, tbD, kvD, rowD, stsD]
    rfl
  refine (seq_nx s1).trans ?_
  have e4 : exec T_law_reach (.wh (.cm .ne (.v 5) (.ls .nil)) (.sq (.set 6 (.ls .nil)) (.sq (.fors (.n 7) (.sq (.v 5)) (.sq (.fors (.n 8) (.sq (.v 2)) lrBody) .sk)) (.sq (.set 5 (.v 6)) .sk)))) [.va (wayD w), .va (treeD t), .va (rowD ds), .va (stD s0), .ow (tbD [(s0, [])]), .ow (stsD [s0]), .no, .no, .no, .no] none = _ := e3
  refine (seq_nx e4).trans ?_
  simp
end
end Tk
set_option linter.all false
set_option Elab.async false
set_option maxRecDepth 100000
set_option maxHeartbeats 1000000
/-! TkView: views, view rows, records; bars. -/
namespace Tk
open PySem
/-- a loop that may return -/
theorem loopF_fnd {α J : Type} {tg : Tg} {b : Env → DS → R Fl} {δ : DS} {h : α → D} (mk : J → Env) (p : α → Bool) (g : α → D) : ∀ (l : List α) (j : J), (∀ x ∈ l, ∀ j, ∃ ρ1, bindT (mk j) tg (h x) = some ρ1 ∧ (p x = true → b ρ1 δ = .ok (.rt (g x)) δ) ∧ (p x = false → ∃ j', b ρ1 δ = .ok (.nx (mk j')) δ)) →
    (∀ x, l.find? p = some x → loopF tg b (l.map h) (mk j) δ = .ok (.rt (g x)) δ) ∧ (l.find? p = none → ∃ j', loopF tg b (l.map h) (mk j) δ = .ok (.nx (mk j')) δ)
  | [], j, _ => ⟨fun x h => by simp at h, fun _ => ⟨j, rfl⟩⟩
  | y :: l, j, H => by
    obtain ⟨ρ1, e1, e2, e3⟩ := H y (by simp) j
    cases hp : p y with
    | true =>
      refine ⟨fun x hx => ?_, fun hx => by simp [List.find?_cons, hp] at hx⟩
      simp only [List.find?_cons, hp, Option.some.injEq] at hx
      subst hx
      simp only [List.map_cons, loopF, e1, e2 hp, R.bind_ok]
    | false =>
      obtain ⟨j', e4⟩ := e3 hp
      obtain ⟨h1, h2⟩ := loopF_fnd mk p g l j' fun x hx => H x (by simp [hx])
      refine ⟨fun x hx => ?_, fun hx => ?_⟩
      · simp only [List.find?_cons, hp] at hx
        have := h1 x hx
        simpa only [List.map_cons, loopF, e1, e4, R.bind_ok] using this
      · simp only [List.find?_cons, hp] at hx
        obtain ⟨j2, e5⟩ := h2 hx
        exact ⟨j2, by simpa only [List.map_cons, loopF, e1, e4, R.bind_ok] using e5⟩
theorem sh_stV {s : List Int} : SeqAt.shaped (stD s) = true := sh_iT
/-- a view as numbers -/
def vw (t : List Nat) (i : Nat) (s : List Int) : List Int := if i = 0 then s else (tickP t s).map fun n : Nat => (n : Int)
theorem vw_eq {t : List Nat} {i : Nat} {s : List Int} : viewP t i s = stD (vw t i s) := by
  unfold viewP vw
  split
  · rfl
  · simp [stD, nL, iL, nI, Function.comp_def]
/-- the views of a row -/
def vrow (w : Wy) (t : List Nat) (i : Nat) (ds : List Dd) : List (List Int) := ((runR w t ds).all.drop 1).map (vw t i)
theorem vrow_eq {w : Wy} {t : List Nat} {i : Nat} {ds : List Dd} : viewsP t i ((runR w t ds).all.drop 1) = stsD (vrow w t i ds) := by
  simp only [viewsP, stsD, vrow, List.map_map]
  congr 1
  refine List.map_congr_left fun s _ => ?_
  exact vw_eq
theorem run_len {w : Wy} {t : List Nat} : ∀ (ds : List Dd) (r : Run), (ds.foldl (nextP w t) r).1.length = r.1.length + ds.length
  | [], r => by simp
  | d :: ds, r => by
    rw [List.foldl_cons, run_len ds]
    simp [nextP]
    omega
theorem vrow_len {w : Wy} {t : List Nat} {i : Nat} {ds : List Dd} : (vrow w t i ds).length = ds.length := by
  simp only [vrow, List.length_map, List.length_drop, Run.all, List.length_append, List.length_cons, List.length_nil]
  have := run_len (w := w) (t := t) ds ([], firstP t)
  simp only [runR, List.length_nil] at this ⊢
  omega
section
variable {w : Wy} {t : List Nat} {ds : List Dd} {i : Nat}
theorem e_shownV (hi : i < 2) (hw : w.ok) (ht : t ∈ trees) (hd : ∀ d ∈ ds, d.ok t) (hl : ds.length ≤ 40) : M_shown [wayD w, treeD t, .int i, rowD ds] = .ok (stsD (vrow w t i ds)) := by rw [e_shown hi hw ht hd hl, vrow_eq]
theorem e_views_ofV (hi : i < 2) (hw : w.ok) (ht : t ∈ trees) (hd : ∀ d ∈ ds, d.ok t) (hl : ds.length ≤ 40) : M_views_of [wayD w, treeD t, .int i, rowD ds] = .ok (stsD (vrow w t i ds)) := by rw [e_views_of hi hw ht hd hl, vrow_eq]
theorem T_lvs_1 : T_law_views "_law_view" = some (.pu M_law_view) := rfl
theorem T_lvs_2 : T_law_views "_law_states" = some (.pu M_law_states) := rfl
theorem e_lviews (hi : i < 2) (hw : w.ok) (ht : t ∈ trees) (hd : ∀ d ∈ ds, d.ok t) (hl : ds.length ≤ 40) : M_law_views [wayD w, treeD t, .int i, rowD ds] = .ok (stsD (vrow w t i ds)) := by
  have h1 := e_lstates hw ht hd hl
  have h2 := (e_states_of hw ht hd hl).2
  have c1 : compL (.n 4) (evB T_law_views (.k (.bool true))) (ev T_law_views (.ca "_law_view" (.cons (.v 1) (.cons (.v 4) (.cons (.v 2) .nil))))) [.va (wayD w), .va (treeD t), .va (.int i), .va (rowD ds), .no] (((runR w t ds).all.drop 1).map stD) none = .ok (((runR w t ds).all.drop 1).map (viewP t i)) none := by
    rw [compL_ok (h := stD) (fun _ => true) (viewP t i)]
    · rw [List.filter_eq_self.mpr (fun _ _ => rfl)]
    · intro s hs
      have hs : s ∈ (runR w t ds).all := List.mem_of_mem_drop hs
      exact ⟨_, rfl, by simp [-List.contains_eq_mem], fun _ => by simp [-List.contains_eq_mem, T_lvs_1, e_lview ht (h2.1 s hs).1.1 hi]⟩
  have e1 : itemsD (stsD ((runR w t ds).all.drop 1)) = some (((runR w t ds).all.drop 1).map stD) := rfl
  have e2 : slD (stsD (runR w t ds).all) (some 1) none = some (stsD ((runR w t ds).all.drop 1)) := sl_sts
  rw [← vrow_eq]
  obtain ⟨l, hl⟩ : ∃ l, l = (runR w t ds).all.drop 1 := ⟨_, rfl⟩
  rw [← hl] at c1 e1 e2 ⊢
  simp [-List.contains_eq_mem, M_law_views, A_law_views, T_lvs_2, h1, e2, e1, c1, viewsP]
end
end Tk
set_option linter.all false
set_option Elab.async false
set_option maxRecDepth 100000
set_option maxHeartbeats 1000000
/-! TkView2: what is a view, a view row, a record; the first bar. -/
namespace Tk
open PySem
theorem e_is_int {n lo hi : Int} : M_is_int [.int n, .int lo, .int hi] = .ok (.bool (decide (lo ≤ n) && decide (n ≤ hi))) := by
  by_cases h : lo ≤ n
  · simp [M_is_int, A_is_int, isTy, chR, h]
  · simp [M_is_int, A_is_int, isTy, chR, h]
def subsL : List Nat → List (List Nat)
  | [] => [[]]
  | x :: l => (subsL l).flatMap fun r => [r, x :: r]
theorem mem_subs (p : Nat → Bool) : ∀ l : List Nat, l.filter p ∈ subsL l
  | [] => by simp [subsL]
  | x :: l => by
    simp only [subsL, List.mem_flatMap]
    refine ⟨l.filter p, mem_subs p l, ?_⟩
    cases h : p x <;> simp [List.filter_cons, h]
def ticksB (t : List Nat) : Bool := (subsL (lvs t)).all fun s => okB (M_is_ticks [.tuple (nL s), treeD t]) true
theorem ticksOk : trees.all ticksB = true := by decide +kernel
theorem e_is_ticks {t : List Nat} {s : List Int} (ht : t ∈ trees) (hs : s.length = t.length) : M_is_ticks [.tuple (nL (tickP t s)), treeD t] = .ok (.bool true) :=
  okB_eq (List.all_eq_true.mp (List.all_eq_true.mp ticksOk t ht) (tickP t s) (mem_subs _ _))
theorem T_iv_1 : T_is_view "is_ticks" = some (.pu M_is_ticks) := rfl
theorem T_iv_2 : T_is_view "is_int" = some (.pu M_is_int) := rfl
/-- a view by the program's word -/
def VOk (t : List Nat) (i : Nat) (v : List Int) : Prop := M_is_view [stD v, treeD t, .int i] = .ok (.bool true)
theorem view_ok {w : Wy} {t : List Nat} {i : Nat} {s : List Int} (ht : t ∈ trees) (hi : i < 2) (f : Fine w t s) : VOk t i (vw t i s) := by
  unfold VOk
  rcases i with _ | _ | i
  · have hs := f.1.1
    have c1 : compL (.n 3) (evB T_is_view (.k (.bool true))) (ev T_is_view (.ca "is_int" (.cons (.v 3) (.cons (.k (.int 0)) (.cons (.k (.int 2)) .nil))))) [.va (stD s), .va (treeD t), .va (.int 0), .no] (iL s) none = .ok (s.map fun v => .bool true) none := comp_all _ (by simp) (by simp) (by
      intro v hv
      obtain ⟨k, hk, rfl⟩ := List.getElem_of_mem hv
      have q := (f.1.2 k (by omega)).three
      rw [List.getD_eq_getElem?_getD, List.getElem?_eq_getElem hk, Option.getD_some] at q
      have : (decide (0 ≤ s[k]) && decide (s[k] ≤ 2)) = true := by
        rcases q with q | q | q <;> rw [q] <;> rfl
      simp [T_iv_2, e_is_int, this])
    have e1 : itemsD (stD s) = some (iL s) := rfl
    have e2 : buD .len [stD s] = some (.int s.length) := by simp [stD, buD]
    have e3 : isTy .tuple (stD s) = true := rfl
    have e4 : asBools (s.map fun _ => PyData.bool true) = some (s.map fun _ => true) := asBools_map (fun _ => true) s
    show M_is_view [stD s, treeD t, .int 0] = _
    simp [-List.contains_eq_mem, M_is_view, A_is_view, e1, e2, e3, c1, e4, hs]
  · have e1 := e_is_ticks ht f.1.1
    have e2 : stD (vw t 1 s) = .tuple (nL (tickP t s)) := by simp [vw, stD, nL, iL, nI, Function.comp_def]
    show M_is_view [stD (vw t 1 s), treeD t, .int 1] = _
    rw [e2]
    simp [-List.contains_eq_mem, M_is_view, A_is_view, T_iv_1, e1]
  · omega
theorem vrow_ok {w : Wy} {t : List Nat} {i : Nat} {ds : List Dd} (hi : i < 2) (hw : w.ok) (ht : t ∈ trees) (hd : ∀ d ∈ ds, d.ok t) (hl : ds.length ≤ 40) : ∀ v ∈ vrow w t i ds, VOk t i v := by
  intro v hv
  obtain ⟨s, hs, rfl⟩ := List.mem_map.mp hv
  exact view_ok ht hi ((e_states_of hw ht hd hl).2.1 s (List.mem_of_mem_drop hs))
theorem T_ivr_1 : T_is_view_row "is_view" = some (.pu M_is_view) := rfl
section
variable {t : List Nat} {i : Nat}
theorem e_is_view_row {l : List (List Int)} (hv : ∀ v ∈ l, VOk t i v) (hl : l.length ≤ 40) : M_is_view_row [stsD l, treeD t, .int i] = .ok (.bool true) := by
  have c1 : compL (.n 3) (evB T_is_view_row (.k (.bool true))) (ev T_is_view_row (.ca "is_view" (.cons (.v 3) (.cons (.v 1) (.cons (.v 2) .nil))))) [.va (stsD l), .va (treeD t), .va (.int i), .no] (l.map stD) none = .ok (l.map fun _ => .bool true) none := by
    rw [compL_ok (h := stD) (fun _ => true) (fun _ => .bool true)]
    · rw [List.filter_eq_self.mpr (fun _ _ => rfl)]
    · intro v hm
      have e := hv v hm
      unfold VOk at e
      exact ⟨_, rfl, by simp, fun _ => by simp [T_ivr_1, e]⟩
  have e1 : itemsD (stsD l) = some (l.map stD) := rfl
  have e3 : isTy .list (stsD l) = true := rfl
  have e4 : asBools (l.map fun _ => PyData.bool true) = some (l.map fun _ => true) := asBools_map (fun _ => true) l
  have e5 : ¬ (40 : Int) < l.length := by omega
  simp [-List.contains_eq_mem, M_is_view_row, A_is_view_row, e1, e3, sts_len, e5, c1, e4]
abbrev Rec := List Dd × List (List Int)
def recD (r : Rec) : D := .tuple [rowD r.1, stsD r.2]
def RecOk (t : List Nat) (i : Nat) (r : Rec) : Prop := (∀ d ∈ r.1, d.ok t) ∧ r.1.length ≤ 40 ∧ r.2.length = r.1.length ∧ ∀ v ∈ r.2, VOk t i v
@[simp] theorem rec_0 {r : Rec} : ixD (recD r) (.int 0) = some (rowD r.1) := rfl
@[simp] theorem rec_1 {r : Rec} : ixD (recD r) (.int 1) = some (stsD r.2) := rfl
theorem row_len {r : List Dd} : buD .len [rowD r] = some (.int r.length) := by simp [rowD, buD]
theorem T_irec_1 : T_is_record "is_view_row" = some (.pu M_is_view_row) := rfl
theorem T_irec_2 : T_is_record "are_deeds" = some (.pu M_are_deeds) := rfl
theorem e_is_record {r : Rec} (ht : t ∈ trees) (h : RecOk t i r) : M_is_record [recD r, treeD t, .int i] = .ok (.bool true) := by
  obtain ⟨h1, h2, h3, h4⟩ := h
  have e1 := e_are_deeds ht h1 h2
  have e2 := e_is_view_row (t := t) (i := i) h4 (by omega)
  have e3 : isTy .tuple (recD r) = true := rfl
  have e4 : buD .len [recD r] = some (.int 2) := rfl
  simp [-List.contains_eq_mem, M_is_record, A_is_record, e3, e4, T_irec_1, T_irec_2, e1, e2, row_len, sts_len, h3]
end
/-! ### bars -/
def onD : Option Nat → D
  | none => .none
  | some k => .int k
def difB (p : (List Int × List Int) × Nat) : Bool := !decide (p.1.1 = p.1.2)
def barP (xs ys : List (List Int)) : Option Nat := ((xs.zip ys).zipIdx.find? difB).map (·.2)
theorem enz_eq : ∀ (xs ys : List (List Int)) (n : Nat), enumD n (pairs (xs.map stD) (ys.map stD)) = ((xs.zip ys).zipIdx n).map fun p => .tuple [.int (p.2 : Nat), .tuple [stD p.1.1, stD p.1.2]]
  | [], ys, n => by simp [pairs, enumD]
  | x :: xs, [], n => by simp [pairs, enumD]
  | x :: xs, y :: ys, n => by
    simp only [List.map_cons, pairs, enumD, List.zip_cons_cons, List.zipIdx_cons]
    rw [enz_eq xs ys (n + 1)]
@[simp] theorem xi_ez {F : Tab} {a b : E} {ρ : Env} {δ : DS} : evI F (.ez a b) ρ δ = (ev F a ρ δ).bind fun x δ => (ev F b ρ δ).bind fun y δ => R.ofOpt δ (match x, y with
    | .list xs, .list ys => some (enumD 0 (pairs xs ys))
    | _, _ => none) := rfl
theorem T_bo_1 : T_bar_of "shown" = some (.pu M_shown) := rfl
theorem e_bar_of {w : Wy} {t : List Nat} {i : Nat} {r : Rec} (hi : i < 2) (hw : w.ok) (ht : t ∈ trees) (h : RecOk t i r) : M_bar_of [wayD w, treeD t, .int i, recD r] = .ok (onD (barP (vrow w t i r.1) r.2)) := by
  obtain ⟨h1, h2, h3, h4⟩ := h
  have es := e_shownV hi hw ht h1 h2
  obtain ⟨vs, hvs⟩ : ∃ vs, vs = vrow w t i r.1 := ⟨_, rfl⟩
  rw [← hvs] at es ⊢
  have key := loopF_fnd (tg := .t (.cons (.n 4) (.cons (.t (.cons (.n 5) (.cons (.n 6) .nil))) .nil))) (b := exec T_bar_of (.sq (.ifs (.cm .ne (.v 5) (.v 6)) (.sq (.ret (.v 4))
  .sk) .sk)
  .sk)) (δ := none) (h := fun p : (List Int × List Int) × Nat => .tuple [.int (p.2 : Nat), .tuple [stD p.1.1, stD p.1.2]]) (fun (j : Slot × Slot × Slot) => [.va (wayD w), .va (treeD t), .va (.int i), .va (recD r), j.1, j.2.1, j.2.2]) difB (fun p => .int (p.2 : Nat)) (vs.zip r.2).zipIdx (.no, .no, .no) (fun x hx j => by
    refine ⟨_, rfl, ?_⟩
    refine ⟨fun hp => ?_, fun hp => ⟨(.va (.int x.2), .va (stD x.1.1), .va (stD x.1.2)), ?_⟩⟩
    · simp only [difB] at hp
      simp [sh_stV, eqv_st, hp]
    · simp only [difB] at hp
      simp [sh_stV, eqv_st, hp])
  refine runP_ok (δ := none) rfl ?_
  have en := enz_eq vs r.2 0
  have e1 : stsD vs = .list (vs.map stD) := rfl
  have e2 : stsD r.2 = .list (r.2.map stD) := rfl
  cases hf : (vs.zip r.2).zipIdx.find? difB with
  | none =>
    obtain ⟨j', h2⟩ := key.2 hf
    simp [A_bar_of, T_bo_1, es, e1, e2, en, h2, barP, hf, onD]
  | some x =>
    have h2 := key.1 x hf
    simp [A_bar_of, T_bo_1, es, e1, e2, en, h2, barP, hf, onD]
end Tk
set_option linter.all false
set_option Elab.async false
set_option maxRecDepth 100000
set_option maxHeartbeats 1000000
namespace Tk
open PySem
section
variable {w : Wy} {t : List Nat} {s : List Int}
abbrev allR (w : Wy) (t : List Nat) : Tb (List Int) Dd := reachT w t (deedsP t) (firstP t)
theorem allR_ok (hw : w.ok) (ht : t ∈ trees) : OkT (EntOk w t) (allR w t) := reach_ok hw ht (fun d hd => deedsP_ok hd) Fine.first
/-- each row leads to its state -/
theorem allR_leads : ∀ x ∈ allR w t, x.2.foldl (stepP w t) (firstP t) = x.1 ∧ ∀ d ∈ x.2, d ∈ deedsP t := by
  have h : OkT (fun s r => r.foldl (stepP w t) (firstP t) = s ∧ ∀ d ∈ r, d ∈ deedsP t) (allR w t) := by
    have one : OkT (fun s r => r.foldl (stepP w t) (firstP t) = s ∧ ∀ d ∈ r, d ∈ deedsP t) [(firstP t, ([] : List Dd))] := ⟨by simp [keysT], fun p hp => by
      have e : p = (firstP t, []) := by simpa using hp
      rw [e]; exact ⟨rfl, by simp⟩⟩
    refine bfs_ok (Q := fun s r => r.foldl (stepP w t) (firstP t) = s ∧ ∀ d ∈ r, d ∈ deedsP t) (fun s r d hd hq => ?_) _ _ _ one
    refine ⟨?_, fun d' hd' => ?_⟩
    · rw [List.foldl_append, hq.1]; rfl
    · rcases List.mem_append.mp hd' with h | h
      · exact hq.2 d' h
      · rw [List.mem_singleton.mp h]; exact hd
  exact h.2
theorem run_fold : ∀ (ds : List Dd) (r : Run), (ds.foldl (nextP w t) r).2 = ds.foldl (stepP w t) r.2
  | [], r => rfl
  | d :: ds, r => by rw [List.foldl_cons, List.foldl_cons, run_fold ds]; rfl
theorem T_cs_1 : T_count_states "check_way" = some (.pu M_check_way) := rfl
theorem T_cs_2 : T_count_states "check_tree" = some (.pu M_check_tree) := rfl
theorem T_cs_3 : T_count_states "rows_of" = some (.pu M_rows_of) := rfl
theorem tb_len {T : Tb (List Int) Dd} : buD .len [tbD T] = some (.int T.length) := by simp [buD, kv_len]
theorem e_count (hw : w.ok) (ht : t ∈ trees) : M_count_states [wayD w, treeD t] = .ok (.int (allR w t).length) := by
  have er : M_rows_of [wayD w, treeD t] = .ok (tbD (allR w t)) := e_rows_of hw ht
  simp [M_count_states, A_count_states, T_cs_1, T_cs_2, T_cs_3, e_check_way hw, e_check_tree ht, er, tb_len]
theorem T_is_1 : T_is_state "is_int" = some (.pu M_is_int) := rfl
theorem e_is_state (hs : s.length = t.length) (hv : ∀ v ∈ s, v = 0 ∨ v = 1 ∨ v = 2) : M_is_state [stD s, treeD t] = .ok (.bool true) := by
  have c1 : compL (.n 2) (evB T_is_state (.k (.bool true))) (ev T_is_state (.ca "is_int" (.cons (.v 2) (.cons (.k (.int 0)) (.cons (.k (.int 2)) .nil))))) [.va (stD s), .va (treeD t), .no] (iL s) none = .ok (s.map fun v => .bool true) none := comp_all _ (by simp) (by simp) (by
    intro v hv'
    have : (decide (0 ≤ v) && decide (v ≤ 2)) = true := by
      rcases hv v hv' with q | q | q <;> rw [q] <;> rfl
    simp [T_is_1, e_is_int, this])
  have e1 : itemsD (stD s) = some (iL s) := rfl
  have e2 : buD .len [stD s] = some (.int s.length) := by simp [stD, buD]
  have e3 : isTy .tuple (stD s) = true := rfl
  have e4 : asBools (s.map fun _ => PyData.bool true) = some (s.map fun _ => true) := asBools_map (fun _ => true) s
  simp [-List.contains_eq_mem, M_is_state, A_is_state, e1, e2, e3, c1, e4, hs]
theorem T_rt_1 : T_rows_to "check_way" = some (.pu M_check_way) := rfl
theorem T_rt_2 : T_rows_to "check_tree" = some (.pu M_check_tree) := rfl
theorem T_rt_3 : T_rows_to "rows_of" = some (.pu M_rows_of) := rfl
theorem T_rt_4 : T_rows_to "is_state" = some (.pu M_is_state) := rfl
theorem e_rows_to (hw : w.ok) (ht : t ∈ trees) (hs : s.length = t.length) (hv : ∀ v ∈ s, v = 0 ∨ v = 1 ∨ v = 2) : M_rows_to [wayD w, treeD t, stD s] = if hasT (allR w t) s then .ok (tbD (allR w t)) else .er "NotFound" := by
  have er : M_rows_of [wayD w, treeD t] = .ok (tbD (allR w t)) := e_rows_of hw ht
  obtain ⟨R, hR⟩ : ∃ R, R = allR w t := ⟨_, rfl⟩
  rw [← hR] at er ⊢
  cases hh : hasT R s with
  | true => simp [M_rows_to, A_rows_to, T_rt_1, T_rt_2, T_rt_3, T_rt_4, e_check_way hw, e_check_tree ht, e_is_state hs hv, er, tb_nin, hh]
  | false => simp [M_rows_to, A_rows_to, T_rt_1, T_rt_2, T_rt_3, T_rt_4, e_check_way hw, e_check_tree ht, e_is_state hs hv, er, tb_nin, hh]
theorem T_ro_to : T_row_to "rows_to" = some (.pu M_rows_to) := rfl
theorem tb_ixo {T : Tb (List Int) Dd} {s : List Int} : ixD (tbD T) (stD s) = (T.find? fun p => decide (p.1 = s)).map fun p => rowD p.2 := by
  show (if isKey (stD s) = true then dget (kvD stD rowD T) (stD s) else none) = _
  rw [if_pos (isKey_st _), kv_get encS]
theorem has_find {T : Tb (List Int) Dd} {s : List Int} (h : hasT T s = true) : ∃ x ∈ T, x.1 = s ∧ (T.find? fun p => decide (p.1 = s)) = some x := by
  cases hf : T.find? fun p => decide (p.1 = s) with
  | none =>
    have := List.find?_eq_none.mp hf
    unfold hasT at h
    obtain ⟨x, hx, e⟩ := List.any_eq_true.mp h
    exact absurd e (this x hx)
  | some x => exact ⟨x, List.mem_of_find?_eq_some hf, by simpa using List.find?_some hf, rfl⟩
theorem e_row_to {x : List Int × List Dd} (hw : w.ok) (ht : t ∈ trees) (hx : x ∈ allR w t) : M_row_to [wayD w, treeD t, stD x.1] = .ok (rowD x.2) := by
  have ok := allR_ok hw ht
  have g := (ok.2 x hx).1.1
  have hh : hasT (allR w t) x.1 = true := hasT_iff.mpr (List.mem_map.mpr ⟨x, hx, rfl⟩)
  have e := e_rows_to (s := x.1) hw ht g.1 fun v hv => by
    obtain ⟨k, hk, rfl⟩ := List.getElem_of_mem hv
    have q := (g.2 k (by rw [← g.1]; exact hk)).three
    rwa [List.getD_eq_getElem?_getD, List.getElem?_eq_getElem hk, Option.getD_some] at q
  rw [hh, if_pos rfl] at e
  have i := tb_ix ok.1 hx
  obtain ⟨R, hR⟩ : ∃ R, R = allR w t := ⟨_, rfl⟩
  rw [← hR] at e i
  simp [M_row_to, A_row_to, T_ro_to, e, i]
theorem e_row_to_no (hw : w.ok) (ht : t ∈ trees) (hs : s.length = t.length) (hv : ∀ v ∈ s, v = 0 ∨ v = 1 ∨ v = 2) (hh : hasT (allR w t) s = false) : M_row_to [wayD w, treeD t, stD s] = .er "NotFound" := by
  have e := e_rows_to hw ht hs hv
  rw [hh, if_neg (by simp)] at e
  simp [M_row_to, A_row_to, T_ro_to, e]
def idleP (w : Wy) (t : List Nat) (s : List Int) : List Dd := (deedsP t).filter fun d => decide (stepP w t s d = s)
theorem T_id_1 : T_idle_deeds "rows_to" = some (.pu M_rows_to) := rfl
theorem T_id_2 : T_idle_deeds "deeds_of" = some (.pu M_deeds_of) := rfl
theorem T_id_3 : T_idle_deeds "step" = some (.pu M_step) := rfl
theorem fine_vals (g : GoodS1 w t s) : ∀ v ∈ s, v = 0 ∨ v = 1 ∨ v = 2 := fun v hv => by
  obtain ⟨k, hk, rfl⟩ := List.getElem_of_mem hv
  have q := (g.2 k (by rw [← g.1]; exact hk)).three
  rwa [List.getD_eq_getElem?_getD, List.getElem?_eq_getElem hk, Option.getD_some] at q
theorem e_idle {x : List Int × List Dd} (hw : w.ok) (ht : t ∈ trees) (hx : x ∈ allR w t) : M_idle_deeds [wayD w, treeD t, stD x.1] = .ok (rowD (idleP w t x.1)) := by
  have ok := allR_ok hw ht
  have f := (ok.2 x hx).1
  have hh : hasT (allR w t) x.1 = true := hasT_iff.mpr (List.mem_map.mpr ⟨x, hx, rfl⟩)
  have e := e_rows_to (s := x.1) hw ht f.1.1 (fine_vals f.1)
  rw [hh, if_pos rfl] at e
  have c1 : compL (.n 3) (evB T_idle_deeds (.cm .eq (.ca "step" (.cons (.v 0) (.cons (.v 1) (.cons (.v 2) (.cons (.v 3) .nil))))) (.v 2))) (ev T_idle_deeds (.v 3)) [.va (wayD w), .va (treeD t), .va (stD x.1), .no] ((deedsP t).map deedD) none = .ok ((idleP w t x.1).map deedD) none := by
    rw [compL_ok (h := deedD) (fun d => decide (stepP w t x.1 d = x.1)) deedD]
    · rfl
    · intro d hd
      have es : M_step [wayD w, treeD t, stD x.1, deedD d] = .ok (stD (stepP w t x.1 d)) := (e_step hw ht (deedsP_ok hd) f.1.1).1
      exact ⟨_, rfl, by simp [T_id_3, es, sh_stV, eqv_st], fun _ => by simp⟩
  have e1 : itemsD (rowD (deedsP t)) = some ((deedsP t).map deedD) := rfl
  have e2 : rowD (idleP w t x.1) = .list ((idleP w t x.1).map deedD) := rfl
  obtain ⟨R, hR⟩ : ∃ R, R = allR w t := ⟨_, rfl⟩
  rw [← hR] at e
  rw [e2]
  simp [M_idle_deeds, A_idle_deeds, T_id_1, T_id_2, e, e_deeds ht, e1, c1, Tg.ixs]
theorem e_idle_no (hw : w.ok) (ht : t ∈ trees) (hs : s.length = t.length) (hv : ∀ v ∈ s, v = 0 ∨ v = 1 ∨ v = 2) (hh : hasT (allR w t) s = false) : M_idle_deeds [wayD w, treeD t, stD s] = .er "NotFound" := by
  have e := e_rows_to hw ht hs hv
  rw [hh, if_neg (by simp)] at e
  simp [M_idle_deeds, A_idle_deeds, T_id_1, e]
/-! ### all sets of leaves -/
def setsP (l : List Nat) : List (List Int) := l.foldl (fun f (b : Nat) => f ++ f.map fun o => o ++ [(b : Int)]) [[]]
theorem setsP_len : ∀ (l : List Nat) (f : List (List Int)), (l.foldl (fun f (b : Nat) => f ++ f.map fun o => o ++ [(b : Int)]) f).length = f.length * 2 ^ l.length
  | [], f => by simp
  | b :: l, f => by
    rw [List.foldl_cons, setsP_len l]
    simp only [List.length_append, List.length_map, List.length_cons, Nat.pow_succ]
    rw [← Nat.two_mul, Nat.mul_comm 2, Nat.mul_assoc, Nat.mul_comm 2]
theorem T_ls_sets : T_law_sets "_law_leaves" = some (.pu M_law_leaves) := rfl
theorem asTups_st : ∀ l : List (List Int), asTups (l.map stD) = some l
  | [] => rfl
  | s :: l => by
    have h : ∀ s : List Int, asInts (iL s) = some s := fun s => by
      induction s with
      | nil => rfl
      | cons x s ih => simp only [iL, List.map_cons, asInts] at ih ⊢; rw [ih]
    have h1 : asTup1 (stD s) = some s := h s
    show (match asTup1 (stD s), asTups (l.map stD) with
      | some t, some ts => some (t :: ts)
      | _, _ => none) = _
    rw [h1, asTups_st l]
theorem sort_sts {l : List (List Int)} (h : l ≠ []) : buD .sorted [stsD l] = some (stsD (tsort l)) := by
  cases l with
  | nil => exact absurd rfl h
  | cons s l =>
    show (match asInts ((s :: l).map stD) with
      | some is => some (PyData.list ((isort is).map .int))
      | none => (asTups ((s :: l).map stD)).map fun ts => PyData.list ((tsort ts).map tupD)) = _
    have e : asInts ((s :: l).map stD) = none := rfl
    rw [e, asTups_st]
    rfl
def addS (f : List (List Int)) (b : Nat) : List (List Int) := f ++ f.map fun o => o ++ [(b : Int)]
theorem e_lsets (ht : t ∈ trees) : M_law_sets [treeD t] = .ok (stsD (tsort ((lvs t).foldl addS [[]]))) := by
  have hl5 : (lvs t).length ≤ 5 := by
    have := tree_small ht
    have : (lvs t).length ≤ t.length := by
      unfold lvs
      exact Nat.le_trans (List.length_filter_le _ _) (by simp)
    omega
  have key := loopF_okL (h := nI) (tg := .n 2) (b := exec T_law_sets (.sq (.set 1 (.bin .add (.v 1) (.co (.bin .add (.v 3) (.tu (.cons (.v 2) .nil))) (.n 3) (.sq (.v 1)) (.k (.bool true)))))
  .sk)) (δ := none) (fun (f : List (List Int)) (j : Slot) => [.va (treeD t), .ow (stsD f), j, .no]) addS (fun l f => f.length * 2 ^ l.length ≤ 32 ∧ f ≠ [] ∧ ∀ o ∈ f, o.length + l.length ≤ 5) (fun f j b l h => by
    obtain ⟨h1, h2, h3⟩ := h
    have h1' : (f.length * 2) * 2 ^ l.length ≤ 32 := by
      rw [List.length_cons, Nat.pow_succ] at h1
      rw [Nat.mul_assoc, Nat.mul_comm 2]
      exact h1
    refine ⟨⟨?_, ?_, fun o ho => ?_⟩, _, .va (nI b), rfl, ?_⟩
    · have e : (addS f b).length = f.length * 2 := by simp [addS]; omega
      rw [e]; exact h1'
    · unfold addS
      cases f with
      | nil => exact absurd rfl h2
      | cons o f => simp
    · unfold addS at ho
      rcases List.mem_append.mp ho with ho | ho
      · have := h3 o ho
        simp only [List.length_cons] at this
        omega
      · obtain ⟨o', ho', rfl⟩ := List.mem_map.mp ho
        have := h3 o' ho'
        simp only [List.length_cons] at this
        simp
        omega
    · have hp : 1 ≤ 2 ^ l.length := Nat.one_le_two_pow
      have hfl : f.length ≤ 16 := by
        have := Nat.le_mul_of_pos_right (f.length * 2) hp
        omega
      have c1 : compL (.n 3) (evB T_law_sets (.k (.bool true))) (ev T_law_sets (.bin .add (.v 3) (.tu (.cons (.v 2) .nil)))) [.va (treeD t), .ow (stsD f), .va (nI b), .no] (f.map stD) none = .ok (f.map fun o => stD (o ++ [(b : Int)])) none := by
        rw [compL_ok (h := stD) (fun _ => true) (fun o => stD (o ++ [(b : Int)]))]
        · rw [List.filter_eq_self.mpr (fun _ _ => rfl)]
        · intro o ho
          have hol : o.length + 1 ≤ big := by
            have := h3 o ho
            unfold big; omega
          have ea : opD .add (stD o) (.tuple [nI b]) = some (stD (o ++ [(b : Int)])) := by
            simp [stD, opD, hol, iL, nI]
          exact ⟨_, rfl, by simp, fun _ => by simp [ea]⟩
      have e1 : itemsD (stsD f) = some (f.map stD) := rfl
      have hb : f.length + f.length ≤ big := by unfold big; omega
      have ea : opD .add (stsD f) (.list (f.map fun o => stD (o ++ [(b : Int)]))) = some (stsD (addS f b)) := by
        simp [stsD, opD, hb, addS, Function.comp_def]
      have il : isL (stsD (addS f b)) = true := rfl
      have sc : scalar (stsD (addS f b)) = false := rfl
      simp [e1, c1, Tg.ixs, ea, il, sc]) (lvs t) [[]] .no ⟨by
        have : 2 ^ (lvs t).length ≤ 2 ^ 5 := Nat.pow_le_pow_right (by omega) hl5
        simpa using this, by simp, fun o ho => by
        have e : o = [] := by simpa using ho
        rw [e]; simpa using hl5⟩
  obtain ⟨⟨_, hne, _⟩, j, h2⟩ := key
  refine runP_ok (δ := none) rfl ?_
  have e0 : stsD [[]] = .list [.tuple []] := rfl
  rw [e0] at h2
  have e1 : itemsD (.list (nL (lvs t))) = some ((lvs t).map nI) := rfl
  simp [A_law_sets, T_ls_sets, e_lleaves ht, e1, h2, sort_sts hne]
theorem lsets_len : (tsort ((lvs t).foldl addS [[]])).length = 2 ^ (lvs t).length := by
  rw [(tsort_perm _).length_eq]
  have := setsP_len (lvs t) [[]]
  rw [show (lvs t).foldl addS [[]] = (lvs t).foldl (fun f (b : Nat) => f ++ f.map fun o => o ++ [(b : Int)]) [[]] from rfl, this]
  simp
end
end Tk
set_option linter.all false
set_option Elab.async false
set_option maxRecDepth 100000
set_option maxHeartbeats 1000000
/-! K02Dr: what the check of layers says. -/
namespace Tk
open PySem
def bitN (V c : Nat) : Bool := Nat.beq (Nat.land (Nat.shiftRight V c) 1) 1
theorem bit_eq {V c : Nat} : bitN V c = V.testBit c := by
  unfold bitN
  have h1 : Nat.land (Nat.shiftRight V c) 1 = (V >>> c) % 2 := Nat.and_one_is_mod _
  rw [h1, Nat.testBit_eq_decide_div_mod_eq, Nat.shiftRight_eq_div_pow]
  cases h : Nat.beq (V / 2 ^ c % 2) 1 with
  | true => have := Nat.eq_of_beq_eq_true h; simp [this]
  | false => have := Nat.ne_of_beq_eq_false h; simp [this]
theorem bit_add {V c x : Nat} : bitN (Nat.lor V (Nat.shiftLeft 1 c)) x = (bitN V x || decide (x = c)) := by
  rw [bit_eq, bit_eq]
  show (V ||| 1 <<< c).testBit x = _
  rw [Nat.testBit_or, Nat.testBit_shiftLeft]
  by_cases h : x = c
  · subst h; simp
  · by_cases h2 : c ≤ x
    · have : x - c ≠ 0 := by omega
      have e : Nat.testBit 1 (x - c) = false := Nat.testBit_lt_two_pow (Nat.one_lt_two_pow this)
      simp [h, e]
    · simp [h, h2]
def good3 (n : Nat) (s : List Nat) : Prop := s.length = n ∧ ∀ x ∈ s, x < 3
theorem code_inj : ∀ {n : Nat} {a b : List Nat}, good3 n a → good3 n b → codeN a = codeN b → a = b
  | 0, [], [], _, _, _ => rfl
  | n + 1, x :: a, y :: b, ha, hb, e => by
    have e' : x + 4 * codeN a = y + 4 * codeN b := e
    have hx := ha.2 x (by simp)
    have hy := hb.2 y (by simp)
    have h1 : x = y := by omega
    have h2 : codeN a = codeN b := by omega
    rw [h1, code_inj (n := n) ⟨by simpa using ha.1, fun z hz => ha.2 z (by simp [hz])⟩ ⟨by simpa using hb.1, fun z hz => hb.2 z (by simp [hz])⟩ h2]
theorem force_eq {β : Type} : ∀ {s : List Nat} {k : List Nat → β}, (∀ x ∈ s, x < 3) → forceN s k = k s
  | [], k, _ => rfl
  | x :: s, k, h => by
    have ih : ∀ k : List Nat → β, forceN s k = k s := fun k => force_eq fun y hy => h y (by simp [hy])
    have hx := h x (by simp)
    match x, hx with
    | 0, _ => exact ih fun r => k (0 :: r)
    | 1, _ => exact ih fun r => k (1 :: r)
    | 2, _ => exact ih fun r => k (2 :: r)
theorem lit_eq {β : Type} {x : Nat} {k : Nat → β} : litN x k = k x := by cases x <;> rfl
/-- the visited ones -/
def Vis (n V : Nat) (L : List (List Nat)) : Prop := ∀ s, good3 n s → (bitN V (codeN s) = true ↔ s ∈ L)
theorem news_ok {n : Nat} {k : Nat → List (List Nat) → Bool} : ∀ {Q : List (List Nat)} {V : Nat} {A L : List (List Nat)}, (∀ s ∈ Q, good3 n s) → Vis n V L → newsN Q V A k = true →
    ∃ V' A' L', k V' A' = true ∧ Vis n V' L' ∧ (∀ s ∈ L', s ∈ L ∨ s ∈ Q) ∧ (∀ s ∈ L, s ∈ L') ∧ (∀ s ∈ Q, s ∈ L') ∧ (∀ s ∈ L', s ∈ L ∨ s ∈ A') ∧ (∀ s ∈ A, s ∈ A') ∧ (∀ s ∈ A', s ∈ A ∨ s ∈ L')
  | [], V, A, L, _, hV, h => ⟨V, A, L, h, hV, fun s hs => .inl hs, fun s hs => hs, fun s hs => (by cases hs), fun s hs => .inl hs, fun s hs => hs, fun s hs => .inl hs⟩
  | s :: Q, V, A, L, hQ, hV, h => by
    have hs := hQ s (by simp)
    have hQ' : ∀ s ∈ Q, good3 n s := fun s h => hQ s (by simp [h])
    have h : (forceN s fun s => litN (codeN s) fun c => iteN (bitN V c) (newsN Q V A k) (litN (Nat.lor V (Nat.shiftLeft 1 c)) fun V => newsN Q V (s :: A) k)) = true := h
    rw [force_eq hs.2, lit_eq, iteN_eq] at h
    cases hb : bitN V (codeN s) with
    | true =>
      rw [hb, if_pos rfl] at h
      obtain ⟨V', A', L', h1, h2, h3, h4, h5, h6, h7, h8⟩ := news_ok hQ' hV h
      refine ⟨V', A', L', h1, h2, fun x hx => (h3 x hx).imp id fun h => by simp [h], h4, fun x hx => ?_, h6, h7, h8⟩
      rcases List.mem_cons.mp hx with rfl | hx
      · exact h4 _ ((hV _ hs).mp hb)
      · exact h5 x hx
    | false =>
      rw [hb, if_neg (by simp), lit_eq] at h
      have hV' : Vis n (Nat.lor V (Nat.shiftLeft 1 (codeN s))) (s :: L) := fun x hx => by
        rw [bit_add, Bool.or_eq_true, hV x hx, List.mem_cons, decide_eq_true_eq]
        constructor
        · rintro (h | h)
          · exact .inr h
          · exact .inl (code_inj hx hs h)
        · rintro (h | h)
          · exact .inr (by rw [h])
          · exact .inl h
      obtain ⟨V', A', L', h1, h2, h3, h4, h5, h6, h7, h8⟩ := news_ok hQ' hV' h
      refine ⟨V', A', L', h1, h2, fun x hx => ?_, fun x hx => h4 x (by simp [hx]), fun x hx => ?_, fun x hx => ?_, fun x hx => h7 x (by simp [hx]), fun x hx => ?_⟩
      · rcases h3 x hx with h | h
        · rcases List.mem_cons.mp h with h | h
          · exact .inr (by simp [h])
          · exact .inl h
        · exact .inr (by simp [h])
      · rcases List.mem_cons.mp hx with h | h
        · exact h4 x (by simp [h])
        · exact h5 x h
      · rcases h6 x hx with h | h
        · rcases List.mem_cons.mp h with h | h
          · exact .inr (h7 x (by simp [h]))
          · exact .inl h
        · exact .inr h
      · rcases h8 x hx with h | h
        · rcases List.mem_cons.mp h with h | h
          · exact .inr (h4 x (by simp [h]))
          · exact .inl h
        · exact .inr h
theorem lay_ok {m : Nat} {f : List Nat → Dd → List Nat} {ds : List Dd} {P : Nat → List Nat → Prop} (hg : ∀ k s, P k s → good3 m s) (hm : ∀ k s, P k s → P (k + 1) s) (hf : ∀ k s d, d ∈ ds → P k s → P (k + 1) (f s d)) :
    ∀ {n V : Nat} {F L : List (List Nat)} {k : Nat}, layN f ds n V F = true → Vis m V L → (∀ s ∈ L, P k s) → (∀ s ∈ F, s ∈ L) → (∀ s ∈ L, s ∉ F → ∀ d ∈ ds, f s d ∈ L) → ∃ L' : List (List Nat), (∀ s ∈ L, s ∈ L') ∧ (∀ s ∈ L', P (k + n) s) ∧ ∀ s ∈ L', ∀ d ∈ ds, f s d ∈ L'
  | n, V, [], L, k, _, hV, hP, hF, hc => by
    have up : ∀ n s, P k s → P (k + n) s := fun n => by
      induction n with
      | zero => exact fun s h => h
      | succ n ih => exact fun s h => hm _ _ (ih s h)
    exact ⟨L, fun s h => h, fun s h => up n s (hP s h), fun s h => hc s h (by simp)⟩
  | 0, V, s :: F, L, k, h, _, _, _, _ => by simp [layN] at h
  | n + 1, V, s :: F, L, k, h, hV, hP, hF, hc => by
    have h : newsN ((s :: F).flatMap fun s => ds.map (f s)) V [] (layN f ds n) = true := h
    have hQ : ∀ x ∈ ((s :: F).flatMap fun s => ds.map (f s)), P (k + 1) x := fun x hx => by
      obtain ⟨y, hy, hx⟩ := List.mem_flatMap.mp hx
      obtain ⟨d, hd, rfl⟩ := List.mem_map.mp hx
      exact hf k y d hd (hP y (hF y hy))
    obtain ⟨V', A', L', h1, h2, h3, h4, h5, h6, h7, h8⟩ := news_ok (fun x hx => hg _ _ (hQ x hx)) hV h
    obtain ⟨L2, g1, g2, g3⟩ := lay_ok hg hm hf (k := k + 1) h1 h2 (fun x hx => (h3 x hx).elim (fun h => hm _ _ (hP x h)) (hQ x)) (fun x hx => (h8 x hx).resolve_left (by simp)) (fun x hx hn d hd => by
      have hL := (h6 x hx).resolve_right hn
      by_cases hxF : x ∈ s :: F
      · exact h5 _ (List.mem_flatMap.mpr ⟨x, hxF, List.mem_map.mpr ⟨d, hd, rfl⟩⟩)
      · exact h4 _ (hc x hL hxF d hd))
    exact ⟨L2, fun x hx => g1 x (h4 x hx), fun x hx => by
      have := g2 x hx
      rwa [show k + 1 + n = k + (n + 1) by omega] at this, g3⟩
end Tk
set_option linter.all false
set_option Elab.async false
set_option maxRecDepth 100000
set_option maxHeartbeats 1000000
/-! the depth check, tree by tree (printed by mkdk.py) -/
namespace Tk
theorem chk_own_0 : chkN (tabN true [0, 1]) = true := by decide +kernel
theorem chk_own_1 : chkN (tabN true [0, 0, 1]) = true := by decide +kernel
theorem chk_own_2 : chkN (tabN true [0, 1, 0]) = true := by decide +kernel
theorem chk_own_3 : chkN (tabN true [0, 1, 1]) = true := by decide +kernel
theorem chk_own_4 : chkN (tabN true [0, 1, 2]) = true := by decide +kernel
theorem chk_own_5 : chkN (tabN true [0, 0, 0, 1]) = true := by decide +kernel
theorem chk_own_6 : chkN (tabN true [0, 0, 1, 0]) = true := by decide +kernel
theorem chk_own_7 : chkN (tabN true [0, 0, 1, 1]) = true := by decide +kernel
theorem chk_own_8 : chkN (tabN true [0, 0, 1, 2]) = true := by decide +kernel
theorem chk_own_9 : chkN (tabN true [0, 1, 0, 0]) = true := by decide +kernel
theorem chk_own_10 : chkN (tabN true [0, 1, 0, 1]) = true := by decide +kernel
theorem chk_own_11 : chkN (tabN true [0, 1, 1, 0]) = true := by decide +kernel
theorem chk_own_12 : chkN (tabN true [0, 1, 1, 1]) = true := by decide +kernel
theorem chk_own_13 : chkN (tabN true [0, 1, 1, 2]) = true := by decide +kernel
theorem chk_own_14 : chkN (tabN true [0, 1, 2, 0]) = true := by decide +kernel
theorem chk_own_15 : chkN (tabN true [0, 1, 2, 1]) = true := by decide +kernel
theorem chk_own_16 : chkN (tabN true [0, 1, 2, 2]) = true := by decide +kernel
theorem chk_own_17 : chkN (tabN true [0, 1, 2, 3]) = true := by decide +kernel
theorem chk_own_18 : chkN (tabN true [0, 0, 0, 0, 1]) = true := by decide +kernel
theorem chk_own_19 : chkN (tabN true [0, 0, 0, 1, 0]) = true := by decide +kernel
theorem chk_own_20 : chkN (tabN true [0, 0, 0, 1, 1]) = true := by decide +kernel
theorem chk_own_21 : chkN (tabN true [0, 0, 0, 1, 2]) = true := by decide +kernel
theorem chk_own_22 : chkN (tabN true [0, 0, 1, 0, 0]) = true := by decide +kernel
theorem chk_own_23 : chkN (tabN true [0, 0, 1, 0, 1]) = true := by decide +kernel
theorem chk_own_24 : chkN (tabN true [0, 0, 1, 1, 0]) = true := by decide +kernel
theorem chk_own_25 : chkN (tabN true [0, 0, 1, 1, 1]) = true := by decide +kernel
theorem chk_own_26 : chkN (tabN true [0, 0, 1, 1, 2]) = true := by decide +kernel
theorem chk_own_27 : chkN (tabN true [0, 0, 1, 2, 0]) = true := by decide +kernel
theorem chk_own_28 : chkN (tabN true [0, 0, 1, 2, 1]) = true := by decide +kernel
theorem chk_own_29 : chkN (tabN true [0, 0, 1, 2, 2]) = true := by decide +kernel
theorem chk_own_30 : chkN (tabN true [0, 0, 1, 2, 3]) = true := by decide +kernel
theorem chk_own_31 : chkN (tabN true [0, 1, 0, 0, 0]) = true := by decide +kernel
theorem chk_own_32 : chkN (tabN true [0, 1, 0, 0, 1]) = true := by decide +kernel
theorem chk_own_33 : chkN (tabN true [0, 1, 0, 1, 0]) = true := by decide +kernel
theorem chk_own_34 : chkN (tabN true [0, 1, 0, 1, 1]) = true := by decide +kernel
theorem chk_own_35 : chkN (tabN true [0, 1, 0, 1, 2]) = true := by decide +kernel
theorem chk_own_36 : chkN (tabN true [0, 1, 1, 0, 0]) = true := by decide +kernel
theorem chk_own_37 : chkN (tabN true [0, 1, 1, 0, 1]) = true := by decide +kernel
theorem chk_own_38 : chkN (tabN true [0, 1, 1, 1, 0]) = true := by decide +kernel
theorem chk_own_39 : chkN (tabN true [0, 1, 1, 1, 1]) = true := by decide +kernel
theorem chk_own_40 : chkN (tabN true [0, 1, 1, 1, 2]) = true := by decide +kernel
theorem chk_own_41 : chkN (tabN true [0, 1, 1, 2, 0]) = true := by decide +kernel
theorem chk_own_42 : chkN (tabN true [0, 1, 1, 2, 1]) = true := by decide +kernel
theorem chk_own_43 : chkN (tabN true [0, 1, 1, 2, 2]) = true := by decide +kernel
theorem chk_own_44 : chkN (tabN true [0, 1, 1, 2, 3]) = true := by decide +kernel
theorem chk_own_45 : chkN (tabN true [0, 1, 2, 0, 0]) = true := by decide +kernel
theorem chk_own_46 : chkN (tabN true [0, 1, 2, 0, 1]) = true := by decide +kernel
theorem chk_own_47 : chkN (tabN true [0, 1, 2, 1, 0]) = true := by decide +kernel
theorem chk_own_48 : chkN (tabN true [0, 1, 2, 1, 1]) = true := by decide +kernel
theorem chk_own_49 : chkN (tabN true [0, 1, 2, 1, 2]) = true := by decide +kernel
theorem chk_own_50 : chkN (tabN true [0, 1, 2, 2, 0]) = true := by decide +kernel
theorem chk_own_51 : chkN (tabN true [0, 1, 2, 2, 1]) = true := by decide +kernel
theorem chk_own_52 : chkN (tabN true [0, 1, 2, 2, 2]) = true := by decide +kernel
theorem chk_own_53 : chkN (tabN true [0, 1, 2, 2, 3]) = true := by decide +kernel
theorem chk_own_54 : chkN (tabN true [0, 1, 2, 3, 0]) = true := by decide +kernel
theorem chk_own_55 : chkN (tabN true [0, 1, 2, 3, 1]) = true := by decide +kernel
theorem chk_own_56 : chkN (tabN true [0, 1, 2, 3, 2]) = true := by decide +kernel
theorem chk_own_57 : chkN (tabN true [0, 1, 2, 3, 3]) = true := by decide +kernel
theorem chk_own_58 : chkN (tabN true [0, 1, 2, 3, 4]) = true := by decide +kernel
theorem chk_own : ∀ t ∈ trees, chkN (tabN true t) = true := all_c (p := fun t => chkN (tabN true t) = true) chk_own_0 (all_c (p := fun t => chkN (tabN true t) = true) chk_own_1 (all_c (p := fun t => chkN (tabN true t) = true) chk_own_2 (all_c (p := fun t => chkN (tabN true t) = true) chk_own_3 (all_c (p := fun t => chkN (tabN true t) = true) chk_own_4 (all_c (p := fun t => chkN (tabN true t) = true) chk_own_5 (all_c (p := fun t => chkN (tabN true t) = true) chk_own_6 (all_c (p := fun t => chkN (tabN true t) = true) chk_own_7 (all_c (p := fun t => chkN (tabN true t) = true) chk_own_8 (all_c (p := fun t => chkN (tabN true t) = true) chk_own_9 (all_c (p := fun t => chkN (tabN true t) = true) chk_own_10 (all_c (p := fun t => chkN (tabN true t) = true) chk_own_11 (all_c (p := fun t => chkN (tabN true t) = true) chk_own_12 (all_c (p := fun t => chkN (tabN true t) = true) chk_own_13 (all_c (p := fun t => chkN (tabN true t) = true) chk_own_14 (all_c (p := fun t => chkN (tabN true t) = true) chk_own_15 (all_c (p := fun t => chkN (tabN true t) = true) chk_own_16 (all_c (p := fun t => chkN (tabN true t) = true) chk_own_17 (all_c (p := fun t => chkN (tabN true t) = true) chk_own_18 (all_c (p := fun t => chkN (tabN true t) = true) chk_own_19 (all_c (p := fun t => chkN (tabN true t) = true) chk_own_20 (all_c (p := fun t => chkN (tabN true t) = true) chk_own_21 (all_c (p := fun t => chkN (tabN true t) = true) chk_own_22 (all_c (p := fun t => chkN (tabN true t) = true) chk_own_23 (all_c (p := fun t => chkN (tabN true t) = true) chk_own_24 (all_c (p := fun t => chkN (tabN true t) = true) chk_own_25 (all_c (p := fun t => chkN (tabN true t) = true) chk_own_26 (all_c (p := fun t => chkN (tabN true t) = true) chk_own_27 (all_c (p := fun t => chkN (tabN true t) = true) chk_own_28 (all_c (p := fun t => chkN (tabN true t) = true) chk_own_29 (all_c (p := fun t => chkN (tabN true t) = true) chk_own_30 (all_c (p := fun t => chkN (tabN true t) = true) chk_own_31 (all_c (p := fun t => chkN (tabN true t) = true) chk_own_32 (all_c (p := fun t => chkN (tabN true t) = true) chk_own_33 (all_c (p := fun t => chkN (tabN true t) = true) chk_own_34 (all_c (p := fun t => chkN (tabN true t) = true) chk_own_35 (all_c (p := fun t => chkN (tabN true t) = true) chk_own_36 (all_c (p := fun t => chkN (tabN true t) = true) chk_own_37 (all_c (p := fun t => chkN (tabN true t) = true) chk_own_38 (all_c (p := fun t => chkN (tabN true t) = true) chk_own_39 (all_c (p := fun t => chkN (tabN true t) = true) chk_own_40 (all_c (p := fun t => chkN (tabN true t) = true) chk_own_41 (all_c (p := fun t => chkN (tabN true t) = true) chk_own_42 (all_c (p := fun t => chkN (tabN true t) = true) chk_own_43 (all_c (p := fun t => chkN (tabN true t) = true) chk_own_44 (all_c (p := fun t => chkN (tabN true t) = true) chk_own_45 (all_c (p := fun t => chkN (tabN true t) = true) chk_own_46 (all_c (p := fun t => chkN (tabN true t) = true) chk_own_47 (all_c (p := fun t => chkN (tabN true t) = true) chk_own_48 (all_c (p := fun t => chkN (tabN true t) = true) chk_own_49 (all_c (p := fun t => chkN (tabN true t) = true) chk_own_50 (all_c (p := fun t => chkN (tabN true t) = true) chk_own_51 (all_c (p := fun t => chkN (tabN true t) = true) chk_own_52 (all_c (p := fun t => chkN (tabN true t) = true) chk_own_53 (all_c (p := fun t => chkN (tabN true t) = true) chk_own_54 (all_c (p := fun t => chkN (tabN true t) = true) chk_own_55 (all_c (p := fun t => chkN (tabN true t) = true) chk_own_56 (all_c (p := fun t => chkN (tabN true t) = true) chk_own_57 (all_c (p := fun t => chkN (tabN true t) = true) chk_own_58 (fun _ h => nomatch h)))))))))))))))))))))))))))))))))))))))))))))))))))))))))))
end Tk
set_option linter.all false
set_option Elab.async false
set_option maxRecDepth 100000
set_option maxHeartbeats 1000000
/-! the depth check, tree by tree (printed by mkdk.py) -/
namespace Tk
theorem chk_dn_0 : chkN (tabN false [0, 1]) = true := by decide +kernel
theorem chk_dn_1 : chkN (tabN false [0, 0, 1]) = true := by decide +kernel
theorem chk_dn_2 : chkN (tabN false [0, 1, 0]) = true := by decide +kernel
theorem chk_dn_3 : chkN (tabN false [0, 1, 1]) = true := by decide +kernel
theorem chk_dn_4 : chkN (tabN false [0, 1, 2]) = true := by decide +kernel
theorem chk_dn_5 : chkN (tabN false [0, 0, 0, 1]) = true := by decide +kernel
theorem chk_dn_6 : chkN (tabN false [0, 0, 1, 0]) = true := by decide +kernel
theorem chk_dn_7 : chkN (tabN false [0, 0, 1, 1]) = true := by decide +kernel
theorem chk_dn_8 : chkN (tabN false [0, 0, 1, 2]) = true := by decide +kernel
theorem chk_dn_9 : chkN (tabN false [0, 1, 0, 0]) = true := by decide +kernel
theorem chk_dn_10 : chkN (tabN false [0, 1, 0, 1]) = true := by decide +kernel
theorem chk_dn_11 : chkN (tabN false [0, 1, 1, 0]) = true := by decide +kernel
theorem chk_dn_12 : chkN (tabN false [0, 1, 1, 1]) = true := by decide +kernel
theorem chk_dn_13 : chkN (tabN false [0, 1, 1, 2]) = true := by decide +kernel
theorem chk_dn_14 : chkN (tabN false [0, 1, 2, 0]) = true := by decide +kernel
theorem chk_dn_15 : chkN (tabN false [0, 1, 2, 1]) = true := by decide +kernel
theorem chk_dn_16 : chkN (tabN false [0, 1, 2, 2]) = true := by decide +kernel
theorem chk_dn_17 : chkN (tabN false [0, 1, 2, 3]) = true := by decide +kernel
theorem chk_dn_18 : chkN (tabN false [0, 0, 0, 0, 1]) = true := by decide +kernel
theorem chk_dn_19 : chkN (tabN false [0, 0, 0, 1, 0]) = true := by decide +kernel
theorem chk_dn_20 : chkN (tabN false [0, 0, 0, 1, 1]) = true := by decide +kernel
theorem chk_dn_21 : chkN (tabN false [0, 0, 0, 1, 2]) = true := by decide +kernel
theorem chk_dn_22 : chkN (tabN false [0, 0, 1, 0, 0]) = true := by decide +kernel
theorem chk_dn_23 : chkN (tabN false [0, 0, 1, 0, 1]) = true := by decide +kernel
theorem chk_dn_24 : chkN (tabN false [0, 0, 1, 1, 0]) = true := by decide +kernel
theorem chk_dn_25 : chkN (tabN false [0, 0, 1, 1, 1]) = true := by decide +kernel
theorem chk_dn_26 : chkN (tabN false [0, 0, 1, 1, 2]) = true := by decide +kernel
theorem chk_dn_27 : chkN (tabN false [0, 0, 1, 2, 0]) = true := by decide +kernel
theorem chk_dn_28 : chkN (tabN false [0, 0, 1, 2, 1]) = true := by decide +kernel
theorem chk_dn_29 : chkN (tabN false [0, 0, 1, 2, 2]) = true := by decide +kernel
theorem chk_dn_30 : chkN (tabN false [0, 0, 1, 2, 3]) = true := by decide +kernel
theorem chk_dn_31 : chkN (tabN false [0, 1, 0, 0, 0]) = true := by decide +kernel
theorem chk_dn_32 : chkN (tabN false [0, 1, 0, 0, 1]) = true := by decide +kernel
theorem chk_dn_33 : chkN (tabN false [0, 1, 0, 1, 0]) = true := by decide +kernel
theorem chk_dn_34 : chkN (tabN false [0, 1, 0, 1, 1]) = true := by decide +kernel
theorem chk_dn_35 : chkN (tabN false [0, 1, 0, 1, 2]) = true := by decide +kernel
theorem chk_dn_36 : chkN (tabN false [0, 1, 1, 0, 0]) = true := by decide +kernel
theorem chk_dn_37 : chkN (tabN false [0, 1, 1, 0, 1]) = true := by decide +kernel
theorem chk_dn_38 : chkN (tabN false [0, 1, 1, 1, 0]) = true := by decide +kernel
theorem chk_dn_39 : chkN (tabN false [0, 1, 1, 1, 1]) = true := by decide +kernel
theorem chk_dn_40 : chkN (tabN false [0, 1, 1, 1, 2]) = true := by decide +kernel
theorem chk_dn_41 : chkN (tabN false [0, 1, 1, 2, 0]) = true := by decide +kernel
theorem chk_dn_42 : chkN (tabN false [0, 1, 1, 2, 1]) = true := by decide +kernel
theorem chk_dn_43 : chkN (tabN false [0, 1, 1, 2, 2]) = true := by decide +kernel
theorem chk_dn_44 : chkN (tabN false [0, 1, 1, 2, 3]) = true := by decide +kernel
theorem chk_dn_45 : chkN (tabN false [0, 1, 2, 0, 0]) = true := by decide +kernel
theorem chk_dn_46 : chkN (tabN false [0, 1, 2, 0, 1]) = true := by decide +kernel
theorem chk_dn_47 : chkN (tabN false [0, 1, 2, 1, 0]) = true := by decide +kernel
theorem chk_dn_48 : chkN (tabN false [0, 1, 2, 1, 1]) = true := by decide +kernel
theorem chk_dn_49 : chkN (tabN false [0, 1, 2, 1, 2]) = true := by decide +kernel
theorem chk_dn_50 : chkN (tabN false [0, 1, 2, 2, 0]) = true := by decide +kernel
theorem chk_dn_51 : chkN (tabN false [0, 1, 2, 2, 1]) = true := by decide +kernel
theorem chk_dn_52 : chkN (tabN false [0, 1, 2, 2, 2]) = true := by decide +kernel
theorem chk_dn_53 : chkN (tabN false [0, 1, 2, 2, 3]) = true := by decide +kernel
theorem chk_dn_54 : chkN (tabN false [0, 1, 2, 3, 0]) = true := by decide +kernel
theorem chk_dn_55 : chkN (tabN false [0, 1, 2, 3, 1]) = true := by decide +kernel
theorem chk_dn_56 : chkN (tabN false [0, 1, 2, 3, 2]) = true := by decide +kernel
theorem chk_dn_57 : chkN (tabN false [0, 1, 2, 3, 3]) = true := by decide +kernel
theorem chk_dn_58 : chkN (tabN false [0, 1, 2, 3, 4]) = true := by decide +kernel
theorem chk_dn : ∀ t ∈ trees, chkN (tabN false t) = true := all_c (p := fun t => chkN (tabN false t) = true) chk_dn_0 (all_c (p := fun t => chkN (tabN false t) = true) chk_dn_1 (all_c (p := fun t => chkN (tabN false t) = true) chk_dn_2 (all_c (p := fun t => chkN (tabN false t) = true) chk_dn_3 (all_c (p := fun t => chkN (tabN false t) = true) chk_dn_4 (all_c (p := fun t => chkN (tabN false t) = true) chk_dn_5 (all_c (p := fun t => chkN (tabN false t) = true) chk_dn_6 (all_c (p := fun t => chkN (tabN false t) = true) chk_dn_7 (all_c (p := fun t => chkN (tabN false t) = true) chk_dn_8 (all_c (p := fun t => chkN (tabN false t) = true) chk_dn_9 (all_c (p := fun t => chkN (tabN false t) = true) chk_dn_10 (all_c (p := fun t => chkN (tabN false t) = true) chk_dn_11 (all_c (p := fun t => chkN (tabN false t) = true) chk_dn_12 (all_c (p := fun t => chkN (tabN false t) = true) chk_dn_13 (all_c (p := fun t => chkN (tabN false t) = true) chk_dn_14 (all_c (p := fun t => chkN (tabN false t) = true) chk_dn_15 (all_c (p := fun t => chkN (tabN false t) = true) chk_dn_16 (all_c (p := fun t => chkN (tabN false t) = true) chk_dn_17 (all_c (p := fun t => chkN (tabN false t) = true) chk_dn_18 (all_c (p := fun t => chkN (tabN false t) = true) chk_dn_19 (all_c (p := fun t => chkN (tabN false t) = true) chk_dn_20 (all_c (p := fun t => chkN (tabN false t) = true) chk_dn_21 (all_c (p := fun t => chkN (tabN false t) = true) chk_dn_22 (all_c (p := fun t => chkN (tabN false t) = true) chk_dn_23 (all_c (p := fun t => chkN (tabN false t) = true) chk_dn_24 (all_c (p := fun t => chkN (tabN false t) = true) chk_dn_25 (all_c (p := fun t => chkN (tabN false t) = true) chk_dn_26 (all_c (p := fun t => chkN (tabN false t) = true) chk_dn_27 (all_c (p := fun t => chkN (tabN false t) = true) chk_dn_28 (all_c (p := fun t => chkN (tabN false t) = true) chk_dn_29 (all_c (p := fun t => chkN (tabN false t) = true) chk_dn_30 (all_c (p := fun t => chkN (tabN false t) = true) chk_dn_31 (all_c (p := fun t => chkN (tabN false t) = true) chk_dn_32 (all_c (p := fun t => chkN (tabN false t) = true) chk_dn_33 (all_c (p := fun t => chkN (tabN false t) = true) chk_dn_34 (all_c (p := fun t => chkN (tabN false t) = true) chk_dn_35 (all_c (p := fun t => chkN (tabN false t) = true) chk_dn_36 (all_c (p := fun t => chkN (tabN false t) = true) chk_dn_37 (all_c (p := fun t => chkN (tabN false t) = true) chk_dn_38 (all_c (p := fun t => chkN (tabN false t) = true) chk_dn_39 (all_c (p := fun t => chkN (tabN false t) = true) chk_dn_40 (all_c (p := fun t => chkN (tabN false t) = true) chk_dn_41 (all_c (p := fun t => chkN (tabN false t) = true) chk_dn_42 (all_c (p := fun t => chkN (tabN false t) = true) chk_dn_43 (all_c (p := fun t => chkN (tabN false t) = true) chk_dn_44 (all_c (p := fun t => chkN (tabN false t) = true) chk_dn_45 (all_c (p := fun t => chkN (tabN false t) = true) chk_dn_46 (all_c (p := fun t => chkN (tabN false t) = true) chk_dn_47 (all_c (p := fun t => chkN (tabN false t) = true) chk_dn_48 (all_c (p := fun t => chkN (tabN false t) = true) chk_dn_49 (all_c (p := fun t => chkN (tabN false t) = true) chk_dn_50 (all_c (p := fun t => chkN (tabN false t) = true) chk_dn_51 (all_c (p := fun t => chkN (tabN false t) = true) chk_dn_52 (all_c (p := fun t => chkN (tabN false t) = true) chk_dn_53 (all_c (p := fun t => chkN (tabN false t) = true) chk_dn_54 (all_c (p := fun t => chkN (tabN false t) = true) chk_dn_55 (all_c (p := fun t => chkN (tabN false t) = true) chk_dn_56 (all_c (p := fun t => chkN (tabN false t) = true) chk_dn_57 (all_c (p := fun t => chkN (tabN false t) = true) chk_dn_58 (fun _ h => nomatch h)))))))))))))))))))))))))))))))))))))))))))))))))))))))))))
end Tk
set_option linter.all false
set_option Elab.async false
set_option maxRecDepth 100000
set_option maxHeartbeats 1000000
/-! K02Ds: no row of the table has more than 40 deeds. -/
namespace Tk
open PySem
variable {w : Wy} {t : List Nat}
theorem fine_fold (hw : w.ok) (ht : t ∈ trees) : ∀ {r : List Dd} {s : List Int}, (∀ d ∈ r, d ∈ deedsP t) → Fine w t s → Fine w t (r.foldl (stepP w t) s)
  | [], s, _, f => f
  | d :: r, s, hr, f => fine_fold hw ht (r := r) (fun d' h => hr d' (by simp [h])) (f.step hw ht (deedsP_ok (hr d (by simp))))
theorem half_way (hw : w.ok) (hu : w.up = "half") : ∃ own tk al mu mo, w = wayN own tk al mu mo := by
  obtain ⟨h1, h2, _, h4, h5, h6⟩ := hw
  obtain ⟨dn, hf, up, al, mu, mo⟩ := w
  simp only at h1 h2 h4 h5 h6 hu
  subst hu
  refine ⟨if dn = "own" then true else false, if hf = "tick" then true else false, if al = 1 then true else false, if mu = 1 then true else false, if mo = 2 then true else false, ?_⟩
  rcases h1 with rfl | rfl <;> rcases h2 with rfl | rfl <;> rcases h4 with rfl | rfl <;> rcases h5 with rfl | rfl <;> rcases h6 with rfl | rfl <;> rfl
theorem key_one {T : Tb (List Int) Dd} (hn : (keysT T).Nodup) {x y : List Int × List Dd} (hx : x ∈ T) (hy : y ∈ T) (e : x.1 = y.1) : x = y := by
  induction T with
  | nil => cases hx
  | cons z T ih =>
    have hn' : (z.1 :: keysT T).Nodup := hn
    obtain ⟨h1, h2⟩ := List.nodup_cons.mp hn'
    rcases List.mem_cons.mp hx with rfl | hx' <;> rcases List.mem_cons.mp hy with rfl | hy'
    · rfl
    · exact absurd (List.mem_map.mpr ⟨y, hy', e.symm⟩) h1
    · exact absurd (List.mem_map.mpr ⟨x, hx', e⟩) h1
    · exact ih h2 hx' hy'
theorem fine_nat {s : List Nat} (f : Fine w t (toI s)) : good3 t.length s ∧ ∀ b, s.getD b 0 ≤ 1 ∨ b ∉ lvs t := by
  have hl : s.length = t.length := by simpa [toI] using f.1.1
  refine ⟨⟨hl, fun x hx => ?_⟩, fun b => ?_⟩
  · obtain ⟨k, hk, rfl⟩ := List.getElem_of_mem hx
    have q := (f.1.2 k (by omega)).three
    rw [toI_get, List.getD_eq_getElem?_getD, List.getElem?_eq_getElem hk, Option.getD_some] at q
    omega
  · by_cases hb : b ∈ lvs t
    · have q := leaf_two01 f.1 hb
      rw [toI_get] at q
      left; omega
    · exact .inr hb
theorem half_short (hw : w.ok) (ht : t ∈ trees) (hu : w.up = "half") : ∀ x ∈ allR w t, x.2.length ≤ 8 := by
  obtain ⟨own, tk, al, mu, mo, rfl⟩ := half_way hw hu
  have hc : chkN (tabN own t) = true := by
    cases own
    · exact chk_dn t ht
    · exact chk_own t ht
  have hl : layN (stepN tk al mu mo (tabN own t)) (dsN t.length) 8 1 [List.replicate t.length 0] = true := by
    unfold chkN at hc
    have fl : ∀ b : Bool, b ∈ flagsN := fun b => by cases b <;> simp [flagsN]
    exact List.all_eq_true.mp (List.all_eq_true.mp (List.all_eq_true.mp (List.all_eq_true.mp hc tk (fl tk)) al (fl al)) mu (fl mu)) mo (fl mo)
  have hds : dsN t.length = deedsP t := rfl
  rw [hds] at hl
  have z : toI (List.replicate t.length 0) = firstP t := toI_rep
  have g0 : good3 t.length (List.replicate t.length 0) := ⟨by simp, fun x hx => by
    have := (List.mem_replicate.mp hx).2
    omega⟩
  obtain ⟨L, h1, h2, h3⟩ := lay_ok (m := t.length) (P := fun k s => ∃ r : List Dd, (∀ d ∈ r, d ∈ deedsP t) ∧ r.length ≤ k ∧ r.foldl (stepP (wayN own tk al mu mo) t) (firstP t) = toI s)
    (fun k s ⟨r, hr, _, e⟩ => (fine_nat (e ▸ fine_fold hw ht hr Fine.first)).1)
    (fun k s ⟨r, hr, hk, e⟩ => ⟨r, hr, by omega, e⟩)
    (fun k s d hd ⟨r, hr, hk, e⟩ => ⟨r ++ [d], fun d' h => by
        rcases List.mem_append.mp h with h | h
        · exact hr d' h
        · rw [List.mem_singleton.mp h]; exact hd, by simp; omega, by
        rw [List.foldl_append, e]
        exact (toI_step (deedsP_ok hd) (fine_nat (e ▸ fine_fold hw ht hr Fine.first)).2).symm⟩)
    (L := [List.replicate t.length 0]) (k := 0) hl (fun s hs => by
      have c0 : codeN (List.replicate t.length 0) = 0 := by
        generalize t.length = n
        induction n with
        | zero => rfl
        | succ n ih =>
          show 0 + 4 * codeN (List.replicate n 0) = 0
          rw [ih]
      rw [bit_eq, List.mem_singleton]
      constructor
      · intro h
        have : codeN s = 0 := by
          cases q : codeN s with
          | zero => rfl
          | succ m =>
            rw [q, Nat.testBit_lt_two_pow (Nat.one_lt_two_pow (by omega))] at h
            cases h
        exact code_inj hs g0 (by rw [this, c0])
      · intro h
        rw [h, c0]; rfl)
    (fun s hs => ⟨[], fun d h => (by cases h), Nat.le_refl _, by rw [List.mem_singleton.mp hs, z]; rfl⟩) (fun s hs => hs) (fun s hs hn => absurd hs hn)
  have reach : ∀ (r : List Dd) (s : List Nat), s ∈ L → (∀ d ∈ r, d ∈ deedsP t) → ∃ s' ∈ L, r.foldl (stepP (wayN own tk al mu mo) t) (toI s) = toI s' := by
    intro r
    induction r with
    | nil => exact fun s hs _ => ⟨s, hs, rfl⟩
    | cons d r ih =>
      intro s hs hr
      have hd := hr d (by simp)
      obtain ⟨r0, hr0, _, e0⟩ := h2 s hs
      have e1 := toI_step (own := own) (tk := tk) (al := al) (mu := mu) (mo := mo) (deedsP_ok hd) (fine_nat (e0 ▸ fine_fold hw ht hr0 Fine.first)).2
      rw [List.foldl_cons, ← e1]
      exact ih _ (h3 s hs d hd) fun d' h => hr d' (by simp [h])
  intro x hx
  obtain ⟨e, hr⟩ := allR_leads x hx
  obtain ⟨s', hs', e'⟩ := reach x.2 (List.replicate t.length 0) (h1 _ (by simp)) hr
  rw [z, e] at e'
  obtain ⟨r, hr2, hk, e2⟩ := h2 s' hs'
  have ok := allR_ok hw ht
  have sh := reach_short hw ht (fun d hd => deedsP_ok hd) (Fine.first (w := wayN own tk al mu mo) (t := t)) (ds := deedsP t)
  obtain ⟨y, hy, ey, ly⟩ := row_within (R := allR (wayN own tk al mu mo) t) (s0 := firstP t) (by
    obtain ⟨M, hM⟩ := reach_first (w := wayN own tk al mu mo) (t := t) (ds := deedsP t) (s0 := firstP t)
    exact ⟨(firstP t, []), by rw [allR, hM]; simp, rfl, by simp⟩) sh.1 ok.1 r hr2
  have hxy : y.1 = x.1 := by rw [ey, e2, e']
  have : y = x := by
    exact key_one ok.1 hy hx hxy
  rw [this] at ly
  omega
def all2 : Nat → List (List Int)
  | 0 => [[]]
  | n + 1 => (all2 n).flatMap fun l => [0 :: l, 1 :: l]
theorem all2_len : ∀ n, (all2 n).length = 2 ^ n
  | 0 => rfl
  | n + 1 => by
    have e : ∀ l : List (List Int), (l.flatMap fun l => [0 :: l, 1 :: l]).length = 2 * l.length := fun l => by
      induction l with
      | nil => rfl
      | cons x l ih => simp only [List.flatMap_cons, List.length_append, ih, List.length_cons, List.length_nil]; omega
    rw [all2, e, all2_len n, Nat.pow_succ]; omega
theorem all2_mem : ∀ {n : Nat} {s : List Int}, s.length = n → (∀ v ∈ s, v = 0 ∨ v = 1) → s ∈ all2 n
  | 0, [], _, _ => by simp [all2]
  | n + 1, x :: s, hl, hv => by
    rw [all2, List.mem_flatMap]
    refine ⟨s, all2_mem (by simpa using hl) fun v h => hv v (by simp [h]), ?_⟩
    rcases hv x (by simp) with rfl | rfl <;> simp
theorem other_len (hw : w.ok) (ht : t ∈ trees) (hu : w.up ≠ "half") : (allR w t).length ≤ 32 := by
  have o := allR_ok hw ht
  have := nodup_le o.1 (u := all2 t.length) fun x hx => by
    simp only [keysT, List.mem_map] at hx
    obtain ⟨p, hp, rfl⟩ := hx
    have g := (o.2 p hp).1.1
    refine all2_mem g.1 fun v hv => ?_
    obtain ⟨i, hi, rfl⟩ := List.mem_iff_getElem.mp hv
    have q := g.2 i (by rw [← g.1]; exact hi)
    rw [List.getD_eq_getElem?_getD, List.getElem?_eq_getElem hi] at q
    rcases q with q | q | ⟨_, _, q⟩
    · exact .inl q
    · exact .inr q
    · exact absurd q hu
  rw [all2_len] at this
  have h5 : t.length ≤ 5 := by have := tree_small ht; omega
  have h6 : 2 ^ t.length ≤ 2 ^ 5 := Nat.pow_le_pow_right (by decide) h5
  have h7 : (2 : Nat) ^ 5 = 32 := by decide
  simp only [keysT, List.length_map] at this
  omega
/-- no row has more than 40 deeds -/
theorem allR_short (hw : w.ok) (ht : t ∈ trees) : ∀ x ∈ allR w t, x.2.length ≤ 40 := by
  intro x hx
  by_cases hu : w.up = "half"
  · have := half_short hw ht hu x hx
    omega
  · have h1 := other_len hw ht hu
    have h2 := (reach_short hw ht (fun d hd => deedsP_ok hd) (Fine.first (w := w) (t := t)) (ds := deedsP t)).2
    obtain ⟨i, hi⟩ := List.mem_iff_getElem?.mp hx
    have h3 := h2 i x hi
    have h4 := (List.getElem?_eq_some_iff.mp hi).1
    unfold allR at h1 h4
    omega
end Tk
set_option linter.all false
set_option Elab.async false
set_option maxRecDepth 100000
namespace Tk
open PySem
def plainB (t : List Nat) : Bool := [("tick" : Str), "clear"].all fun hf => decide ((reachT ⟨"all", hf, "half", 0, 0, 0⟩ t (deedsP t) (firstP t)).length = 2 ^ (lvs t).length)
theorem plains : trees.all plainB = true := by decide +kernel
end Tk
set_option linter.all false
set_option Elab.async false
set_option maxRecDepth 100000
set_option maxHeartbeats 1000000
/-! K02Call: the law's guarded calls; sorted(rows); strange states. -/
namespace Tk
open PySem
section
variable {w : Wy} {t : List Nat} {s : List Int}
theorem sh_st {s : List Int} : SeqAt.shaped (stD s) = true := sh_iT
theorem sh_dd : ∀ d : Dd, PyData.canLay0 (deedD d) = true ∧ PyData.depth (deedD d) ≤ 58
  | .click b => by
    have : PyData.strOk "click" = true := by decide +kernel
    exact ⟨by simp [deedD, PyData.canLay0, PyData.canLayAll0, this], by simp [deedD, PyData.depth, PyData.depthAll]⟩
  | .all => ⟨by decide +kernel, by decide +kernel⟩
  | .none => ⟨by decide +kernel, by decide +kernel⟩
  | .turn => ⟨by decide +kernel, by decide +kernel⟩
theorem sh_rowD {r : List Dd} : SeqAt.shaped (rowD r) = true := sh_listOf (fun d => ⟨(sh_dd d).1, Nat.le_trans (sh_dd d).2 (by omega)⟩) r
theorem er_nf : errName "NotFound" = some "none" := by decide +kernel
theorem T_lc_1 : T_law_call "row_to" = some (.pu M_row_to) := rfl
theorem T_lc_2 : T_law_call "idle_deeds" = some (.pu M_idle_deeds) := rfl
theorem e_call0 {x : List Int × List Dd} (hw : w.ok) (ht : t ∈ trees) (hx : x ∈ allR w t) : M_law_call [.int 0, wayD w, treeD t, stD x.1] = .ok (rowD x.2) := by
  have e1 := e_row_to hw ht hx
  simp [M_law_call, runT, grd, A_law_call, T_lc_1, e1]
theorem e_call1 {x : List Int × List Dd} (hw : w.ok) (ht : t ∈ trees) (hx : x ∈ allR w t) : M_law_call [.int 1, wayD w, treeD t, stD x.1] = .ok (rowD (idleP w t x.1)) := by
  have e1 := e_idle hw ht hx
  simp [M_law_call, runT, grd, A_law_call, T_lc_2, e1]
theorem e_call0_no (hw : w.ok) (ht : t ∈ trees) (hs : s.length = t.length) (hv : ∀ v ∈ s, v = 0 ∨ v = 1 ∨ v = 2) (hh : hasT (allR w t) s = false) : M_law_call [.int 0, wayD w, treeD t, stD s] = .ok (.str "none") := by
  have e1 := e_row_to_no hw ht hs hv hh
  simp [M_law_call, runT, grd, A_law_call, T_lc_1, e1, er_nf]
theorem e_call1_no (hw : w.ok) (ht : t ∈ trees) (hs : s.length = t.length) (hv : ∀ v ∈ s, v = 0 ∨ v = 1 ∨ v = 2) (hh : hasT (allR w t) s = false) : M_law_call [.int 1, wayD w, treeD t, stD s] = .ok (.str "none") := by
  have e1 := e_idle_no hw ht hs hv hh
  simp [M_law_call, runT, grd, A_law_call, T_lc_2, e1, er_nf]
theorem tb_keys2 {T : Tb (List Int) Dd} : (kvD stD rowD T).map (·.1) = (keysT T).map stD := by
  simp [kvD, keysT, Function.comp_def]
theorem sort_tb {T : Tb (List Int) Dd} : buD .sorted [tbD T] = some (stsD (tsort (keysT T))) := by
  show (asTups ((kvD stD rowD T).map (·.1))).map (fun ts => PyData.list ((tsort ts).map tupD)) = _
  rw [tb_keys2, asTups_st]
  rfl
theorem e_stepL {d : Dd} (hw : w.ok) (ht : t ∈ trees) (hd : d.ok t) (f : Fine w t s) : M_law_step [wayD w, treeD t, stD s, deedD d] = .ok (stD (stepP w t s d)) := by
  rw [step_eq hw ht hd f.1]
  exact e_lstep hw ht hd f.1.1
theorem first_in (hw : w.ok) (ht : t ∈ trees) : (firstP t, ([] : List Dd)) ∈ allR w t := by
  obtain ⟨M, hM⟩ := reach_first (w := w) (t := t) (ds := deedsP t) (s0 := firstP t)
  rw [allR, hM]; simp
theorem idle_first : Dd.none ∈ idleP w t (firstP t) := by
  unfold idleP
  rw [List.mem_filter]
  refine ⟨by simp [deedsP], ?_⟩
  have : stepP w t (firstP t) .none = firstP t := by
    unfold stepP
    split <;> rfl
  simpa using this
theorem has_leaf (ht : t ∈ trees) : ∃ b, b ∈ lvs t := by
  have h : trees.all (fun t => !(lvs t).isEmpty) = true := by decide +kernel
  have := List.all_eq_true.mp h t ht
  cases q : lvs t with
  | nil => rw [q] at this; cases this
  | cons b l => exact ⟨b, by simp⟩
theorem twos_out (hw : w.ok) (ht : t ∈ trees) : hasT (allR w t) (List.replicate t.length 2) = false := by
  cases h : hasT (allR w t) (List.replicate t.length 2) with
  | false => rfl
  | true =>
    obtain ⟨x, hx, e, _⟩ := has_find h
    obtain ⟨b, hb⟩ := has_leaf ht
    have g := ((allR_ok hw ht).2 x hx).1.1
    have q := leaf_two01 g hb
    rw [e, List.getD_eq_getElem?_getD, List.getElem?_replicate] at q
    have := lvs_lt hb
    simp [this] at q
theorem plain_len (hw : w.ok) (ht : t ∈ trees) : (allR ⟨"all", w.hf, "half", 0, 0, 0⟩ t).length = 2 ^ (lvs t).length := by
  have h := List.all_eq_true.mp plains t ht
  unfold plainB at h
  have h2 := List.all_eq_true.mp h w.hf (by rcases hw.2.1 with q | q <;> simp [q])
  simpa using h2
end
end Tk
set_option linter.all false
set_option Elab.async false
set_option maxRecDepth 100000
set_option maxHeartbeats 1000000
namespace Tk
open PySem
section
variable {w : Wy} {t : List Nat}
theorem T_a_deeds : T_law "_law_deeds" = some (.pu M_law_deeds) := rfl
theorem T_a_reach : T_law "_law_reach" = some (.pu M_law_reach) := rfl
theorem T_a_way : T_law "_law_way" = some (.dw M_law_way) := rfl
theorem T_a_tree : T_law "_law_tree" = some (.dw M_law_tree) := rfl
theorem T_a_first : T_law "_law_first" = some (.pu M_law_first) := rfl
theorem T_a_pick : T_law "_law_pick" = some (.dw M_law_pick) := rfl
theorem T_a_call : T_law "_law_call" = some (.pu M_law_call) := rfl
theorem T_a_step : T_law "_law_step" = some (.pu M_law_step) := rfl
theorem T_a_draw : T_law "_law_draw" = some (.dw M_law_draw) := rfl
theorem T_a_count : T_law "count_states" = some (.pu M_count_states) := rfl
theorem T_a_after : T_law "state_after" = some (.pu M_state_after) := rfl
theorem T_a_sets : T_law "_law_sets" = some (.pu M_law_sets) := rfl
/-- law's slots -/
abbrev lE (w : Wy) (t : List Nat) (s6 s7 s9 s11 s13 : Slot) : Env := [.no, .dr, .va (wayD w), .va (treeD t), .va (rowD (deedsP t)), .va (tbD (allR w t)), s6, s7, .no, s9, .no, s11, .no, s13]
theorem j_idle {ρ : Env} {δ : DS} {i : Nat} {s : List Int} (hw : w.ok) (ht : t ∈ trees) (f : Fine w t s) (h8 : ρ.length = 14) (hi8 : i ≠ 8) (h2 : look ρ 2 = some (wayD w)) (h3 : look ρ 3 = some (treeD t)) (h4 : look ρ 4 = some (rowD (deedsP t))) (hi : look ρ i = some (stD s)) :
    compL (.n 8) (evB T_law (.cm .eq (.ca "_law_step" (.cons (.v 2) (.cons (.v 3) (.cons (.v i) (.cons (.v 8) .nil))))) (.v i))) (ev T_law (.v 8)) ρ ((deedsP t).map deedD) δ = .ok ((idleP w t s).map deedD) δ := by
  rw [compL_ok (h := deedD) (fun d => decide (stepP w t s d = s)) deedD]
  · rfl
  · intro d hd
    have es := e_stepL hw ht (deedsP_ok hd) f
    have l8 : look (ρ.set 8 (.va (deedD d))) 8 = some (deedD d) := by
      simp [u_look, h8]
    have lk : ∀ j, j ≠ 8 → look (ρ.set 8 (.va (deedD d))) j = look ρ j := fun j hj => by
      simp only [u_look, List.getElem?_set_ne (Ne.symm hj)]
    refine ⟨ρ.set 8 (.va (deedD d)), by simp [bindT, h8], j_B ?_, fun _ => ?_⟩
    · have c1 : ev T_law (.ca "_law_step" (.cons (.v 2) (.cons (.v 3) (.cons (.v i) (.cons (.v 8) .nil))))) (ρ.set 8 (.va (deedD d))) δ = .ok (stD (stepP w t s d)) δ :=
        j_ca (ds := [wayD w, treeD t, stD s, deedD d]) T_a_step (by simp only [evs, ev, lk 2 (by decide), lk 3 (by decide), lk i hi8, h2, h3, hi, l8, R.ofOpt_some, R.bind_ok]) es
      have c2 : ev T_law (.v i) (ρ.set 8 (.va (deedD d))) δ = .ok (stD s) δ := by simp only [ev, lk i hi8, hi, R.ofOpt_some]
      simp only [ev] at c1 c2 ⊢
      rw [c1, R.bind_ok, c2, R.bind_ok]
      simp [sh_stV, eqv_st]
    · simp only [ev, l8, R.ofOpt_some]
theorem l_turn {n : Nat} {q : List Int × Int} (hw : w.ok) (ht : t ∈ trees) (hq : q.1 ≠ []) (s7 : Slot) : ∃ s7' q', q'.1 ≠ [] ∧ exec T_law (.sq (.set 7 (.dc "_law_pick" 1 (.cons (.bu .sorted (.cons (.v 5) .nil)) .nil)))
  (.sq (.ifs (.or (.cm .ne (.ca "_law_call" (.cons (.k (.int 0)) (.cons (.v 2) (.cons (.v 3) (.cons (.v 7) .nil))))) (.ix (.v 5) (.v 7))) (.cm .ne (.ca "state_after" (.cons (.v 2) (.cons (.v 3) (.cons (.ix (.v 5) (.v 7)) .nil)))) (.v 7))) (.sq (.ret (.k (.bool false)))
  .sk) .sk)
  (.sq (.ifs (.cm .ne (.ca "_law_call" (.cons (.k (.int 1)) (.cons (.v 2) (.cons (.v 3) (.cons (.v 7) .nil))))) (.co (.v 8) (.n 8) (.sq (.v 4)) (.cm .eq (.ca "_law_step" (.cons (.v 2) (.cons (.v 3) (.cons (.v 7) (.cons (.v 8) .nil))))) (.v 7)))) (.sq (.ret (.k (.bool false)))
  .sk) .sk)
  .sk))) (lE w t (.va (.int n)) s7 .no .no .no) (some q) = .ok (.nx (lE w t (.va (.int n)) s7' .no .no .no)) (some q') := by
  have ok := allR_ok hw ht
  have hlen := okT_len ht ok
  have hkl : (tsort (keysT (allR w t))).length = (allR w t).length := by
    rw [(tsort_perm _).length_eq]; simp [keysT]
  have hpos : 0 < (allR w t).length := List.length_pos_of_mem (first_in hw ht)
  obtain ⟨d, q', e1, hd, hq'⟩ := e_pick (xs := (tsort (keysT (allR w t))).map stD) (q := q) (by
    intro h
    have := congrArg List.length h
    simp only [List.length_map, List.length_nil] at this
    omega) (by simp only [List.length_map]; omega) hq
  obtain ⟨s, hs, rfl⟩ := List.mem_map.mp hd
  have hs' : s ∈ keysT (allR w t) := (tsort_perm _).mem_iff.mp hs
  obtain ⟨x, hx, rfl⟩ := List.mem_map.mp hs'
  have f := (ok.2 x hx).1
  refine ⟨.va (stD x.1), q', hq', ?_⟩
  have p1 : ev T_law (.dc "_law_pick" 1 (.cons (.bu .sorted (.cons (.v 5) .nil)) .nil)) (lE w t (.va (.int n)) s7 .no .no .no) (some q) = .ok (stD x.1) (some q') := j_dc (ds := [stsD (tsort (keysT (allR w t)))]) rfl (by simp [sort_tb]) T_a_pick e1
  have s1 : exec T_law (.set 7 (.dc "_law_pick" 1 (.cons (.bu .sorted (.cons (.v 5) .nil)) .nil))) (lE w t (.va (.int n)) s7 .no .no .no) (some q) = .ok (.nx (lE w t (.va (.int n)) (.va (stD x.1)) .no .no .no)) (some q') := by
    simp [p1, st_isL]
    rfl
  refine (seq_nx s1).trans ?_
  obtain ⟨ρ, hρ⟩ : ∃ ρ, ρ = lE w t (.va (.int n)) (.va (stD x.1)) .no .no .no := ⟨_, rfl⟩
  have l2 : look ρ 2 = some (wayD w) := by rw [hρ]; rfl
  have l3 : look ρ 3 = some (treeD t) := by rw [hρ]; rfl
  have l4 : look ρ 4 = some (rowD (deedsP t)) := by rw [hρ]; rfl
  have l5 : look ρ 5 = some (tbD (allR w t)) := by rw [hρ]; rfl
  have l7 : look ρ 7 = some (stD x.1) := by rw [hρ]; rfl
  have h8 : ρ.length = 14 := by rw [hρ]; rfl
  have r8 : ρ[8]? = some .no := by rw [hρ]; rfl
  have ix : ev T_law (.ix (.v 5) (.v 7)) ρ (some q') = .ok (rowD x.2) (some q') := by
    simp only [ev, l5, l7, R.ofOpt_some, R.bind_ok, tb_ix ok.1 hx]
  have hrow : ∀ d ∈ x.2, d.ok t := fun d hd => deedsP_ok ((allR_leads x hx).2 d hd)
  have hsh := allR_short hw ht x hx
  have ea := e_state_after hw ht hrow hsh
  have hrun : (runR w t x.2).2 = x.1 := by
    have := run_fold (w := w) (t := t) x.2 ([], firstP t)
    unfold runR
    rw [this]
    exact (allR_leads x hx).1
  rw [hrun] at ea
  rw [← hρ]
  have c1 : ev T_law (.or (.cm .ne (.ca "_law_call" (.cons (.k (.int 0)) (.cons (.v 2) (.cons (.v 3) (.cons (.v 7) .nil))))) (.ix (.v 5) (.v 7))) (.cm .ne (.ca "state_after" (.cons (.v 2) (.cons (.v 3) (.cons (.ix (.v 5) (.v 7)) .nil)))) (.v 7))) ρ (some q') = .ok (.bool false) (some q') := by
    refine j_or (x := false) (y := false) (j_ne sh_rowD (j_ca (ds := [.int 0, wayD w, treeD t, stD x.1]) T_a_call (by simp only [evs, ev, l2, l3, l7, R.ofOpt_some, R.bind_ok]) (e_call0 hw ht hx)) ix) (j_ne sh_st (j_ca (ds := [wayD w, treeD t, rowD x.2]) T_a_after ?_ ea) (by simp only [ev, l7, R.ofOpt_some]))
    simp only [ev] at ix
    simp only [evs, ev, l2, l3, R.ofOpt_some, R.bind_ok, ix]
  have cm := j_idle (δ := some q') (i := 7) hw ht f h8 (by decide) l2 l3 l4 l7
  have e4 : itemsD (rowD (deedsP t)) = some ((deedsP t).map deedD) := rfl
  have c2 : ev T_law (.cm .ne (.ca "_law_call" (.cons (.k (.int 1)) (.cons (.v 2) (.cons (.v 3) (.cons (.v 7) .nil))))) (.co (.v 8) (.n 8) (.sq (.v 4)) (.cm .eq (.ca "_law_step" (.cons (.v 2) (.cons (.v 3) (.cons (.v 7) (.cons (.v 8) .nil))))) (.v 7)))) ρ (some q') = .ok (.bool false) (some q') := by
    refine j_ne sh_rowD (j_ca (ds := [.int 1, wayD w, treeD t, stD x.1]) T_a_call (by simp only [evs, ev, l2, l3, l7, R.ofOpt_some, R.bind_ok]) (e_call1 hw ht hx)) ?_
    have hset : List.set ρ 8 .no = ρ := by rw [hρ]; rfl
    simp only [u_look] at l4
    simp [l4, e4, Tg.ixs, r8, hset, cm]
    rfl
  simp only [exec, j_B c1, j_B c2, R.bind_ok, Bool.false_eq_true, if_false]
end
end Tk
set_option linter.all false
set_option Elab.async false
set_option maxRecDepth 100000
set_option maxHeartbeats 1000000
namespace Tk
open PySem
section
variable {w : Wy} {t : List Nat}
theorem comp_draw {s6 s7 : Slot} : ∀ (l : List D) (q : List Int × Int), q.1 ≠ [] → ∃ (s : List Int) (q' : List Int × Int), compL (.n 10) (evB T_law (.k (.bool true))) (ev T_law (.dc "_law_draw" 1 (.cons (.k (.int 3)) .nil))) (lE w t s6 s7 .no .no .no) l (some q) = .ok (iL s) (some q') ∧ s.length = l.length ∧ (∀ v ∈ s, v = 0 ∨ v = 1 ∨ v = 2) ∧ q'.1 ≠ []
  | [], q, hq => ⟨[], q, rfl, rfl, fun v h => (by cases h), hq⟩
  | d :: l, q, hq => by
    obtain ⟨r, q1, e1, hr, hq1⟩ := e_draw (limit := 3) (by decide) (by decide) hq
    obtain ⟨s, q2, e2, hl, hv, hq2⟩ := comp_draw (s6 := s6) (s7 := s7) l q1 hq1
    refine ⟨(r : Int) :: s, q2, ?_, by simp [hl], fun v h => ?_, hq2⟩
    · have p1 : ev T_law (.dc "_law_draw" 1 (.cons (.k (.int 3)) .nil)) [.no, .dr, .va (wayD w), .va (treeD t), .va (rowD (deedsP t)), .va (tbD (allR w t)), s6, s7, .no, .no, .va d, .no, .no, .no] (some q) = .ok (.int r) (some q1) := j_dc (ds := [.int 3]) rfl rfl T_a_draw e1
      have b : bindT (lE w t s6 s7 .no .no .no) (.n 10) d = some [.no, .dr, .va (wayD w), .va (treeD t), .va (rowD (deedsP t)), .va (tbD (allR w t)), s6, s7, .no, .no, .va d, .no, .no, .no] := rfl
      have c : ∀ ρ (δ : DS), evB T_law (.k (.bool true)) ρ δ = .ok true δ := fun _ _ => rfl
      simp only [compL, b, c, p1, e2, R.bind_ok, if_true]
      rfl
    · rcases List.mem_cons.mp h with rfl | h
      · omega
      · exact hv v h
theorem l_strange {s6 s7 : Slot} {q : List Int × Int} (ht : t ∈ trees) (hq : q.1 ≠ []) : ∃ (s : List Int) (q' : List Int × Int), s.length = t.length ∧ (∀ v ∈ s, v = 0 ∨ v = 1 ∨ v = 2) ∧ q'.1 ≠ [] ∧ exec T_law (.set 9 (.bu .tuple (.cons (.co (.dc "_law_draw" 1 (.cons (.k (.int 3)) .nil)) (.n 10) (.sq (.v 3)) (.k (.bool true))) .nil))) (lE w t s6 s7 .no .no .no) (some q) = .ok (.nx (lE w t s6 s7 (.va (stD s)) .no .no)) (some q') := by
  obtain ⟨s, q', e, hl, hv, hq'⟩ := comp_draw (w := w) (t := t) (s6 := s6) (s7 := s7) (nL t) q hq
  refine ⟨s, q', by simpa [nL] using hl, hv, hq', ?_⟩
  have e1 : itemsD (treeD t) = some (nL t) := rfl
  have e2 : buD .tuple [.list (iL s)] = some (stD s) := rfl
  simp [e1, e, Tg.ixs, e2, st_isL]
theorem l_s11 {s6 s7 s9 : Slot} {δ : DS} : exec T_law (.set 11 (.bin .mul (.ls (.cons (.k (.str "none")) .nil)) (.k (.int 2)))) (lE w t s6 s7 s9 .no .no) δ = .ok (.nx (lE w t s6 s7 s9 (.ow (.list [.str "none", .str "none"])) .no)) δ := by
  have : opD .mul (.list [.str "none"]) (.int 2) = some (.list [.str "none", .str "none"]) := rfl
  simp [this]
abbrev sDue : S := .ifs (.cm .isin (.v 9) (.v 5)) (.sq (.set 11 (.ls (.cons (.ix (.v 5) (.v 9)) (.cons (.co (.v 8) (.n 8) (.sq (.v 4)) (.cm .eq (.ca "_law_step" (.cons (.v 2) (.cons (.v 3) (.cons (.v 9) (.cons (.v 8) .nil))))) (.v 9))) .nil)))) .sk) .sk
abbrev sCall : S := .ifs (.cm .ne (.co (.ca "_law_call" (.cons (.v 12) (.cons (.v 2) (.cons (.v 3) (.cons (.v 9) .nil))))) (.n 12) (.r1 (.k (.int 2))) (.k (.bool true))) (.v 11)) (.sq (.ret (.k (.bool false))) .sk) .sk
theorem sh_two {a b : D} {n : Nat} (ha : PyData.canLay0 a = true ∧ PyData.depth a ≤ n) (hb : PyData.canLay0 b = true ∧ PyData.depth b ≤ n) (hn : n ≤ 60) : SeqAt.shaped (.list [a, b]) = true := by
  refine shOf (n := n + 1) ⟨?_, ?_⟩ (by omega)
  · simp only [PyData.canLay0, PyData.canLayAll0, ha.1, hb.1, Bool.and_self]
  · have h1 := ha.2
    have h2 := hb.2
    simp only [PyData.depth, PyData.depthAll]
    omega
theorem e_cons {F : Tab} {e : E} {es : Es} {ρ : Env} {δ δ1 δ2 : DS} {d : D} {ds : List D} (h : ev F e ρ δ = .ok d δ1) (hs : evs F es ρ δ1 = .ok ds δ2) : evs F (.cons e es) ρ δ = .ok (d :: ds) δ2 := by
  unfold evs; rw [h, R.bind_ok, hs]; rfl
theorem e_v {F : Tab} {i : Nat} {ρ : Env} {δ : DS} {d : D} (h : look ρ i = some d) : ev F (.v i) ρ δ = .ok d δ := by
  unfold ev; rw [h]; rfl
theorem low_none : PyData.canLay0 (.str "none") = true ∧ PyData.depth (.str "none") ≤ 2 := ⟨by decide +kernel, by decide +kernel⟩
theorem l_due1 {s6 s7 : Slot} {s : List Int} {δ : DS} (hw : w.ok) (ht : t ∈ trees) (hs : s.length = t.length) (hv : ∀ v ∈ s, v = 0 ∨ v = 1 ∨ v = 2) : ∃ a b, M_law_call [.int 0, wayD w, treeD t, stD s] = .ok a ∧ M_law_call [.int 1, wayD w, treeD t, stD s] = .ok b ∧ SeqAt.shaped (.list [a, b]) = true ∧ exec T_law sDue (lE w t s6 s7 (.va (stD s)) (.ow (.list [.str "none", .str "none"])) .no) δ = .ok (.nx (lE w t s6 s7 (.va (stD s)) (.ow (.list [a, b])) .no)) δ := by
  have ok := allR_ok hw ht
  obtain ⟨ρ, hρ⟩ : ∃ ρ, ρ = lE w t s6 s7 (.va (stD s)) (.ow (.list [.str "none", .str "none"])) .no := ⟨_, rfl⟩
  have l2 : look ρ 2 = some (wayD w) := by rw [hρ]; rfl
  have l3 : look ρ 3 = some (treeD t) := by rw [hρ]; rfl
  have l4 : look ρ 4 = some (rowD (deedsP t)) := by rw [hρ]; rfl
  have l5 : look ρ 5 = some (tbD (allR w t)) := by rw [hρ]; rfl
  have l9 : look ρ 9 = some (stD s) := by rw [hρ]; rfl
  have h8 : ρ.length = 14 := by rw [hρ]; rfl
  have r8 : ρ[8]? = some .no := by rw [hρ]; rfl
  have ci : ev T_law (.cm .isin (.v 9) (.v 5)) ρ δ = .ok (.bool (hasT (allR w t) s)) δ := by
    simp only [ev, l9, l5, R.ofOpt_some, R.bind_ok, tb_isin, Option.map_some]
  cases hh : hasT (allR w t) s with
  | false =>
    refine ⟨.str "none", .str "none", e_call0_no hw ht hs hv hh, e_call1_no hw ht hs hv hh, sh_two low_none low_none (by omega), ?_⟩
    rw [hh] at ci
    rw [← hρ]
    simp only [exec, j_B ci, R.bind_ok, Bool.false_eq_true, if_false]
  | true =>
    obtain ⟨x, hx, rfl, _⟩ := has_find hh
    have f := (ok.2 x hx).1
    refine ⟨rowD x.2, rowD (idleP w t x.1), e_call0 hw ht hx, e_call1 hw ht hx, sh_two (low_row _) (low_row _) (by omega), ?_⟩
    rw [hh] at ci
    have ix : ev T_law (.ix (.v 5) (.v 9)) ρ δ = .ok (rowD x.2) δ := by
      simp only [ev, l5, l9, R.ofOpt_some, R.bind_ok, tb_ix ok.1 hx]
    have cm := j_idle (δ := δ) (i := 9) hw ht f h8 (by decide) l2 l3 l4 l9
    have e4 : itemsD (rowD (deedsP t)) = some ((deedsP t).map deedD) := rfl
    have c2 : ev T_law (.co (.v 8) (.n 8) (.sq (.v 4)) (.cm .eq (.ca "_law_step" (.cons (.v 2) (.cons (.v 3) (.cons (.v 9) (.cons (.v 8) .nil))))) (.v 9))) ρ δ = .ok (rowD (idleP w t x.1)) δ := by
      have hset : List.set ρ 8 .no = ρ := by rw [hρ]; rfl
      simp only [u_look] at l4
      simp [l4, e4, Tg.ixs, r8, hset, cm]
      rfl
    have es : evs T_law (.cons (.ix (.v 5) (.v 9)) (.cons (.co (.v 8) (.n 8) (.sq (.v 4)) (.cm .eq (.ca "_law_step" (.cons (.v 2) (.cons (.v 3) (.cons (.v 9) (.cons (.v 8) .nil))))) (.v 9))) .nil)) ρ δ = .ok [rowD x.2, rowD (idleP w t x.1)] δ := by
      unfold evs; rw [ix, R.bind_ok]; unfold evs; rw [c2]; rfl
    have el : ev T_law (.ls (.cons (.ix (.v 5) (.v 9)) (.cons (.co (.v 8) (.n 8) (.sq (.v 4)) (.cm .eq (.ca "_law_step" (.cons (.v 2) (.cons (.v 3) (.cons (.v 9) (.cons (.v 8) .nil))))) (.v 9))) .nil))) ρ δ = .ok (.list [rowD x.2, rowD (idleP w t x.1)]) δ := by
      unfold ev; rw [es]; rfl
    rw [← hρ]
    have s1 : exec T_law (.set 11 (.ls (.cons (.ix (.v 5) (.v 9)) (.cons (.co (.v 8) (.n 8) (.sq (.v 4)) (.cm .eq (.ca "_law_step" (.cons (.v 2) (.cons (.v 3) (.cons (.v 9) (.cons (.v 8) .nil))))) (.v 9))) .nil)))) ρ δ = .ok (.nx (lE w t s6 s7 (.va (stD x.1)) (.ow (.list [rowD x.2, rowD (idleP w t x.1)])) .no)) δ := by
      unfold exec; rw [el, hρ]; rfl
    have q := seq_nx (b := .sk) s1
    unfold exec
    rw [j_B ci, R.bind_ok, if_pos rfl, q]
    rfl
theorem l_due2 {s6 s7 : Slot} {s : List Int} {δ : DS} {a b : D} (h0 : M_law_call [.int 0, wayD w, treeD t, stD s] = .ok a) (h1 : M_law_call [.int 1, wayD w, treeD t, stD s] = .ok b) (sh : SeqAt.shaped (.list [a, b]) = true) : exec T_law sCall (lE w t s6 s7 (.va (stD s)) (.ow (.list [a, b])) .no) δ = .ok (.nx (lE w t s6 s7 (.va (stD s)) (.ow (.list [a, b])) .no)) δ := by
  have c : ev T_law (.co (.ca "_law_call" (.cons (.v 12) (.cons (.v 2) (.cons (.v 3) (.cons (.v 9) .nil))))) (.n 12) (.r1 (.k (.int 2))) (.k (.bool true))) (lE w t s6 s7 (.va (stD s)) (.ow (.list [a, b])) .no) δ = .ok (.list [a, b]) δ := by
    have r2 : rangeD 0 2 = [.int 0, .int 1] := rfl
    have q : compL (.n 12) (evB T_law (.k (.bool true))) (ev T_law (.ca "_law_call" (.cons (.v 12) (.cons (.v 2) (.cons (.v 3) (.cons (.v 9) .nil)))))) (lE w t s6 s7 (.va (stD s)) (.ow (.list [a, b])) .no) [.int 0, .int 1] δ = .ok [a, b] δ := by
      simp [compL, bindT, T_a_call, h0, h1]
    simp [r2, q, Tg.ixs]
  have v : ev T_law (.v 11) (lE w t s6 s7 (.va (stD s)) (.ow (.list [a, b])) .no) δ = .ok (.list [a, b]) δ := rfl
  have n := j_ne sh c v
  unfold exec
  rw [j_B n]
  rfl
abbrev sPlain : S := .set 13 (.tu (.cons (.k (.str "all")) (.cons (.ix (.v 2) (.k (.int 1))) (.cons (.k (.str "half")) (.cons (.k (.int 0)) (.cons (.k (.int 0)) (.cons (.k (.int 0)) .nil)))))))
abbrev eCount : E := .cm .ne (.ca "count_states" (.cons (.v 13) (.cons (.v 3) .nil))) (.bu .len (.cons (.ca "_law_sets" (.cons (.v 3) .nil)) .nil))
abbrev eTwos : E := .cm .ne (.ca "_law_call" (.cons (.k (.int 0)) (.cons (.v 2) (.cons (.v 3) (.cons (.bu .tuple (.cons (.bin .mul (.ls (.cons (.k (.int 2)) .nil)) (.bu .len (.cons (.v 3) .nil))) .nil)) .nil))))) (.k (.str "none"))
abbrev eLast : E := .an (.cm .eq (.ca "_law_call" (.cons (.k (.int 0)) (.cons (.v 2) (.cons (.v 3) (.cons (.ca "_law_first" (.cons (.v 3) .nil)) .nil))))) (.ls .nil)) (.cm .isin (.tu (.cons (.k (.str "none")) .nil)) (.ca "_law_call" (.cons (.k (.int 1)) (.cons (.v 2) (.cons (.v 3) (.cons (.ca "_law_first" (.cons (.v 3) .nil)) .nil))))))
theorem l_plain {s6 s7 s9 s11 : Slot} {δ : DS} : exec T_law sPlain (lE w t s6 s7 s9 s11 .no) δ = .ok (.nx (lE w t s6 s7 s9 s11 (.va (wayD ⟨"all", w.hf, "half", 0, 0, 0⟩)))) δ := by
  simp [wayD]
  rfl
theorem l_last {s6 s7 s9 s11 : Slot} {δ : DS} (hw : w.ok) (ht : t ∈ trees) : exec T_law (.sq (.ifs (.or eCount eTwos) (.sq (.ret (.k (.bool false))) .sk) .sk) (.sq (.ret eLast) .sk)) (lE w t s6 s7 s9 s11 (.va (wayD ⟨"all", w.hf, "half", 0, 0, 0⟩))) δ = .ok (.rt (.bool true)) δ := by
  obtain ⟨ρ, hρ⟩ : ∃ ρ, ρ = lE w t s6 s7 s9 s11 (.va (wayD ⟨"all", w.hf, "half", 0, 0, 0⟩)) := ⟨_, rfl⟩
  have l2 : look ρ 2 = some (wayD w) := by rw [hρ]; rfl
  have l3 : look ρ 3 = some (treeD t) := by rw [hρ]; rfl
  have l13 : look ρ 13 = some (wayD ⟨"all", w.hf, "half", 0, 0, 0⟩) := by rw [hρ]; rfl
  rw [← hρ]
  have ht5 := tree_small ht
  have hwp : (⟨"all", w.hf, "half", 0, 0, 0⟩ : Wy).ok := ⟨Or.inl rfl, hw.2.1, Or.inl rfl, Or.inl rfl, Or.inl rfl, Or.inl rfl⟩
  have ec := e_count hwp ht
  rw [plain_len hw ht] at ec
  have c1 : ev T_law eCount ρ δ = .ok (.bool false) δ := by
    refine j_ne (d := .int ((2 ^ (lvs t).length : Nat) : Int)) rfl (j_ca (ds := [wayD ⟨"all", w.hf, "half", 0, 0, 0⟩, treeD t]) T_a_count (by simp only [evs, ev, l13, l3, R.ofOpt_some, R.bind_ok]) ec) ?_
    have z : ev T_law (.ca "_law_sets" (.cons (.v 3) .nil)) ρ δ = .ok (stsD (tsort ((lvs t).foldl addS [[]]))) δ := j_ca (ds := [treeD t]) T_a_sets (by simp only [evs, ev, l3, R.ofOpt_some, R.bind_ok]) (e_lsets ht)
    have z2 : buD .len [stsD (tsort ((lvs t).foldl addS [[]]))] = some (.int ((2 ^ (lvs t).length : Nat) : Int)) := by
      show some (PyData.int (((tsort ((lvs t).foldl addS [[]])).map stD).length : Int)) = _
      rw [List.length_map, lsets_len]
    unfold ev evs
    rw [z]
    simp only [R.bind_ok, evs, z2, R.ofOpt_some]
  have c2 : ev T_law eTwos ρ δ = .ok (.bool false) δ := by
    refine j_ne (d := .str "none") (by decide +kernel) (j_ca (ds := [.int 0, wayD w, treeD t, stD (List.replicate t.length 2)]) T_a_call ?_ (e_call0_no hw ht (by simp) (fun v hv => Or.inr (Or.inr (List.eq_of_mem_replicate hv))) (twos_out hw ht))) rfl
    have z1 : ev T_law (.bu .len (.cons (.v 3) .nil)) ρ δ = .ok (.int (t.length : Int)) δ := by
      simp only [u_look] at l3
      simp [l3]
    have z2 : opD .mul (.list [.int 2]) (.int (t.length : Int)) = some (.list (iL (List.replicate t.length 2))) := by
      have h1 : ((t.length : Int) ≤ 1000 ∧ -1000 ≤ (t.length : Int) ∧ [PyData.int 2].length ≤ 1000) := ⟨by omega, by omega, by simp⟩
      show (if _ then _ else _) = _
      rw [if_pos h1]
      simp [iL]
    have z3 : ev T_law (.bu .tuple (.cons (.bin .mul (.ls (.cons (.k (.int 2)) .nil)) (.bu .len (.cons (.v 3) .nil))) .nil)) ρ δ = .ok (stD (List.replicate t.length 2)) δ := by
      have z4 : ev T_law (.bin .mul (.ls (.cons (.k (.int 2)) .nil)) (.bu .len (.cons (.v 3) .nil))) ρ δ = .ok (.list (iL (List.replicate t.length 2))) δ := by
        unfold ev
        rw [show ev T_law (.ls (.cons (.k (.int 2)) .nil)) ρ δ = .ok (.list [.int 2]) δ from rfl, R.bind_ok, z1, R.bind_ok, z2]
        rfl
      unfold ev evs
      rw [z4]
      rfl
    exact e_cons rfl (e_cons (e_v l2) (e_cons (e_v l3) (e_cons z3 rfl)))
  have f1 : ev T_law (.ca "_law_first" (.cons (.v 3) .nil)) ρ δ = .ok (stD (firstP t)) δ := j_ca (ds := [treeD t]) T_a_first (by simp only [evs, ev, l3, R.ofOpt_some, R.bind_ok]) (e_lfirst ht)
  have g0 := e_call0 hw ht (first_in hw ht)
  have g1 := e_call1 hw ht (first_in hw ht)
  have a0 : ev T_law (.ca "_law_call" (.cons (.k (.int 0)) (.cons (.v 2) (.cons (.v 3) (.cons (.ca "_law_first" (.cons (.v 3) .nil)) .nil))))) ρ δ = .ok (rowD []) δ := j_ca (ds := [.int 0, wayD w, treeD t, stD (firstP t)]) T_a_call (e_cons rfl (e_cons (e_v l2) (e_cons (e_v l3) (e_cons f1 rfl)))) g0
  have a1 : ev T_law (.ca "_law_call" (.cons (.k (.int 1)) (.cons (.v 2) (.cons (.v 3) (.cons (.ca "_law_first" (.cons (.v 3) .nil)) .nil))))) ρ δ = .ok (rowD (idleP w t (firstP t))) δ := j_ca (ds := [.int 1, wayD w, treeD t, stD (firstP t)]) T_a_call (e_cons rfl (e_cons (e_v l2) (e_cons (e_v l3) (e_cons f1 rfl)))) g1
  have b0 : ev T_law (.cm .eq (.ca "_law_call" (.cons (.k (.int 0)) (.cons (.v 2) (.cons (.v 3) (.cons (.ca "_law_first" (.cons (.v 3) .nil)) .nil))))) (.ls .nil)) ρ δ = .ok (.bool true) δ := j_eq sh_rowD a0 rfl
  have b1 : ev T_law (.cm .isin (.tu (.cons (.k (.str "none")) .nil)) (.ca "_law_call" (.cons (.k (.int 1)) (.cons (.v 2) (.cons (.v 3) (.cons (.ca "_law_first" (.cons (.v 3) .nil)) .nil)))))) ρ δ = .ok (.bool true) δ := by
    unfold ev
    rw [show ev T_law (.tu (.cons (.k (.str "none")) .nil)) ρ δ = .ok (deedD .none) δ from rfl, R.bind_ok, a1, R.bind_ok]
    have z : cmD .isin (deedD .none) (rowD (idleP w t (firstP t))) = some true := by
      show (if SeqAt.shaped (deedD .none) && SeqAt.shaped (rowD (idleP w t (firstP t))) then some (((idleP w t (firstP t)).map deedD).any fun z => PyData.eqv z (deedD .none)) else none) = _
      rw [shOf (low_deed _) (by omega), sh_rowD]
      simp only [Bool.and_self, if_true, Option.some.injEq, List.any_map, List.any_eq_true]
      exact ⟨.none, idle_first, eqv_refl _ (low_deed _).1⟩
    rw [z]
    rfl
  have co := j_or c1 c2
  have ca := j_an b0 b1
  have s1 : exec T_law (.ifs (.or eCount eTwos) (.sq (.ret (.k (.bool false))) .sk) .sk) ρ δ = .ok (.nx ρ) δ := by
    unfold exec
    rw [j_B co]
    rfl
  refine (seq_nx s1).trans ?_
  unfold exec
  have s2 : exec T_law (.ret eLast) ρ δ = .ok (.rt (.bool true)) δ := by
    unfold exec
    rw [ca]
    rfl
  rw [s2]
  rfl
end
abbrev sTurn : S := .sq (.set 7 (.dc "_law_pick" 1 (.cons (.bu .sorted (.cons (.v 5) .nil)) .nil)))
  (.sq (.ifs (.or (.cm .ne (.ca "_law_call" (.cons (.k (.int 0)) (.cons (.v 2) (.cons (.v 3) (.cons (.v 7) .nil))))) (.ix (.v 5) (.v 7))) (.cm .ne (.ca "state_after" (.cons (.v 2) (.cons (.v 3) (.cons (.ix (.v 5) (.v 7)) .nil)))) (.v 7))) (.sq (.ret (.k (.bool false)))
  .sk) .sk)
  (.sq (.ifs (.cm .ne (.ca "_law_call" (.cons (.k (.int 1)) (.cons (.v 2) (.cons (.v 3) (.cons (.v 7) .nil))))) (.co (.v 8) (.n 8) (.sq (.v 4)) (.cm .eq (.ca "_law_step" (.cons (.v 2) (.cons (.v 3) (.cons (.v 7) (.cons (.v 8) .nil))))) (.v 7)))) (.sq (.ret (.k (.bool false)))
  .sk) .sk)
  .sk))
theorem A_law_eq : A_law = (.sq (.sets [2, 3] (.cons (.dc "_law_way" 1 .nil) (.cons (.dc "_law_tree" 1 (.cons (.k (.int 5)) .nil)) .nil)))
  (.sq (.set 4 (.ca "_law_deeds" (.cons (.v 3) .nil)))
  (.sq (.set 5 (.ca "_law_reach" (.cons (.v 2) (.cons (.v 3) (.cons (.v 4) (.cons (.ca "_law_first" (.cons (.v 3) .nil)) .nil))))))
  (.sq (.ifs (.cm .ne (.ca "count_states" (.cons (.v 2) (.cons (.v 3) .nil))) (.bu .len (.cons (.v 5) .nil))) (.sq (.ret (.k (.bool false)))
  .sk) .sk)
  (.sq (.fors (.n 6) (.r1 (.k (.int 5))) sTurn)
  (.sq (.set 9 (.bu .tuple (.cons (.co (.dc "_law_draw" 1 (.cons (.k (.int 3)) .nil)) (.n 10) (.sq (.v 3)) (.k (.bool true))) .nil)))
  (.sq (.set 11 (.bin .mul (.ls (.cons (.k (.str "none")) .nil)) (.k (.int 2))))
  (.sq sDue (.sq sCall (.sq sPlain (.sq (.ifs (.or eCount eTwos) (.sq (.ret (.k (.bool false))) .sk) .sk) (.sq (.ret eLast) .sk)))))))))))) := rfl
theorem k02_true (ns : List Int) : ∃ δ', exec T_law A_law (law0 12) (some (if ns = [] then [0] else ns, 0)) = .ok (.rt (.bool true)) δ' := by
  obtain ⟨q0, hq0, hq⟩ : ∃ q : List Int × Int, q = (if ns = [] then [0] else ns, 0) ∧ q.1 ≠ [] := ⟨_, rfl, by simp only; split <;> simp_all⟩
  rw [← hq0, A_law_eq]
  obtain ⟨w, q1, e1, hw, hq1⟩ := e_way hq
  obtain ⟨t, q2, e2, ht, hq2⟩ := e_tree hq1
  have s0 : exec T_law (.sets [2, 3] (.cons (.dc "_law_way" 1 .nil) (.cons (.dc "_law_tree" 1 (.cons (.k (.int 5)) .nil)) .nil))) (law0 12) (some q0) = .ok (.nx [.no, .dr, .va (wayD w), .va (treeD t), .no, .no, .no, .no, .no, .no, .no, .no, .no, .no]) (some q2) := by
    have d1 : ev T_law (.dc "_law_way" 1 .nil) [.no, .dr, .no, .no, .no, .no, .no, .no, .no, .no, .no, .no, .no, .no] (some q0) = .ok (wayD w) (some q1) := j_dc rfl rfl T_a_way e1
    have d2 : ev T_law (.dc "_law_tree" 1 (.cons (.k (.int 5)) .nil)) [.no, .dr, .no, .no, .no, .no, .no, .no, .no, .no, .no, .no, .no, .no] (some q1) = .ok (treeD t) (some q2) := j_dc (ds := [.int 5]) rfl rfl T_a_tree e2
    show exec T_law _ [.no, .dr, .no, .no, .no, .no, .no, .no, .no, .no, .no, .no, .no, .no] _ = _
    simp [d1, d2]
  have s1 : exec T_law (.set 4 (.ca "_law_deeds" (.cons (.v 3) .nil))) [.no, .dr, .va (wayD w), .va (treeD t), .no, .no, .no, .no, .no, .no, .no, .no, .no, .no] (some q2) = .ok (.nx [.no, .dr, .va (wayD w), .va (treeD t), .va (rowD (deedsP t)), .no, .no, .no, .no, .no, .no, .no, .no, .no]) (some q2) := by
    simp [T_a_deeds, e_ldeeds ht]
  have er := e_lreach (ds := deedsP t) hw ht (fun d hd => deedsP_ok hd) (Fine.first (w := w) (t := t))
  have s2 : exec T_law (.set 5 (.ca "_law_reach" (.cons (.v 2) (.cons (.v 3) (.cons (.v 4) (.cons (.ca "_law_first" (.cons (.v 3) .nil)) .nil)))))) [.no, .dr, .va (wayD w), .va (treeD t), .va (rowD (deedsP t)), .no, .no, .no, .no, .no, .no, .no, .no, .no] (some q2) = .ok (.nx (lE w t .no .no .no .no .no)) (some q2) := by
    simp [T_a_reach, T_a_first, e_lfirst ht, er]
  have s3 : exec T_law (.ifs (.cm .ne (.ca "count_states" (.cons (.v 2) (.cons (.v 3) .nil))) (.bu .len (.cons (.v 5) .nil))) (.sq (.ret (.k (.bool false))) .sk) .sk) (lE w t .no .no .no .no .no) (some q2) = .ok (.nx (lE w t .no .no .no .no .no)) (some q2) := by
    have n : ev T_law (.cm .ne (.ca "count_states" (.cons (.v 2) (.cons (.v 3) .nil))) (.bu .len (.cons (.v 5) .nil))) (lE w t .no .no .no .no .no) (some q2) = .ok (.bool false) (some q2) := by
      refine j_ne (d := .int ((allR w t).length : Int)) rfl (j_ca (ds := [wayD w, treeD t]) T_a_count rfl (e_count hw ht)) ?_
      have z : evs T_law (.cons (.v 5) .nil) (lE w t .no .no .no .no .no) (some q2) = .ok [tbD (allR w t)] (some q2) := rfl
      unfold ev
      rw [z, R.bind_ok, tb_len]
      rfl
    unfold exec
    rw [j_B n]
    rfl
  have key := loopF_ex (tg := .n 6) (b := exec T_law sTurn)
    (fun xs ρ δ => (∀ x ∈ xs, ∃ n : Nat, x = .int n ∧ n < 5) ∧ ∃ q s6 s7, δ = some q ∧ q.1 ≠ [] ∧ ρ = lE w t s6 s7 .no .no .no) (by
      rintro x xs ρ δ ⟨hx, q, s6, s7, rfl, hq, rfl⟩
      obtain ⟨n, rfl, hn⟩ := hx x (by simp)
      obtain ⟨s7', q', hq', f⟩ := l_turn (n := n) hw ht hq s7
      exact ⟨_, _, some q', rfl, f, fun y hy => hx y (by simp [hy]), q', _, _, rfl, hq', rfl⟩) (nL (List.range 5)) (lE w t .no .no .no .no .no) (some q2) ⟨fun x hx => by
        simp only [nL, List.mem_map, List.mem_range] at hx
        obtain ⟨n, hn, rfl⟩ := hx
        exact ⟨n, rfl, hn⟩, q2, _, _, rfl, hq2, rfl⟩
  obtain ⟨ρ', δ', k5, _, q3, s6, s7, rfl, hq3, rfl⟩ := key
  obtain ⟨s, q4, hl, hv, hq4, f1⟩ := l_strange (w := w) (s6 := s6) (s7 := s7) ht hq3
  obtain ⟨a, b, h0, h1, sh, f2⟩ := l_due1 (s6 := s6) (s7 := s7) (δ := some q4) hw ht hl hv
  have f3 := l_due2 (s6 := s6) (s7 := s7) (δ := some q4) h0 h1 sh
  refine ⟨some q4, (seq_nx s0).trans ((seq_nx s1).trans ((seq_nx s2).trans ((seq_nx s3).trans ((seq_nx (ρ1 := lE w t s6 s7 .no .no .no) (δ1 := some q3) ?_).trans ((seq_nx f1).trans ((seq_nx l_s11).trans ((seq_nx f2).trans ((seq_nx f3).trans ((seq_nx l_plain).trans (l_last hw ht))))))))))⟩
  rw [sx_fors]
  have i5 : evI T_law (.r1 (.k (.int 5))) (lE w t .no .no .no .no .no) (some q2) = .ok (nL (List.range 5)) (some q2) := rfl
  rw [i5]
  exact k5
end Tk
set_option linter.all false
set_option Elab.async false
set_option maxRecDepth 100000
set_option maxHeartbeats 1000000
namespace Tk
open PySem L2
/-- a module at work -/
structure Md where
  P : Program
  w : World
  K : PySem.W.Frag
  mg : Str → Option Value
  base : Heap
def PuOk (M : Md) (k : Nat) (x : Str) (n : Nat) (g : List D → O D) : Prop := ∃ f fd ps, FnOk M.P M.w M.K M.mg M.base (L2.CX M.P M.w) k f fd ps (spP M.K M.mg n g) ∧ M.mg x = some (.ref f) ∧ PySem.W.keepIn M.K (.ref f) = true ∧ Binds M.K fd ps [] ∧ ps.length = n ∧ ∀ ds, ds.length ≠ n → g ds = .bad
def PfOk (M : Md) (k : Nat) (x : Str) (n : Nat) (g : List D → O D) : Prop := ∃ f fd ps, FnOk M.P M.w M.K M.mg M.base (L2.CX M.P M.w) k f fd ps (spF M.K M.mg n g) ∧ M.mg x = some (.ref f) ∧ PySem.W.keepIn M.K (.ref f) = true ∧ Binds M.K fd ps [] ∧ ps.length = n ∧ ∀ ds, ds.length ≠ n → g ds = .bad
def DwOk (M : Md) (k : Nat) (x : Str) (n : Nat) (g : List D → List Int × Int → O (D × (List Int × Int))) : Prop := ∃ f fd ps, FnOk M.P M.w M.K M.mg M.base (L2.CX M.P M.w) k f fd ps (spD M.K n g) ∧ M.mg x = some (.ref f) ∧ PySem.W.keepIn M.K (.ref f) = true ∧ Binds M.K fd ps [] ∧ ps.length = n + 1 ∧ ∀ ds q, ds.length ≠ n → g ds q = .bad
def MuOk (M : Md) (k : Nat) (x : Str) (n j : Nat) (g : List D → O D) : Prop := ∃ f fd ps, FnOk M.P M.w M.K M.mg M.base (L2.CX M.P M.w) k f fd ps (spM M.K n j g) ∧ M.mg x = some (.ref f) ∧ PySem.W.keepIn M.K (.ref f) = true ∧ Binds M.K fd ps [] ∧ ps.length = n ∧ ∀ ds, ds.length ≠ n → g ds = .bad
def CoOk (M : Md) (x : Str) (d : D) : Prop := ∃ u v, M.mg x = some u ∧ RelV v u ∧ ∀ H A, Dat M.K H A v d
def EcOk (M : Md) (x : Str) : Prop := ∃ C, M.mg x = some (.ref C) ∧ PySem.W.excIn M.K C He.veBase "ValueError.__new__" = true ∧ PySem.W.keepIn M.K (.ref C) = true ∧ PySem.W.subIn M.K (.ref C) (.type "BaseException") = some true ∧ PySem.W.typeIn M.K (.ref C) = some (.type "type")
def Ent (M : Md) (k : Nat) (T : Tab) (x : Str) : GK → Prop
  | .pu => ∃ n g, T x = some (.pu g) ∧ PuOk M k x n g
  | .pf => ∃ n g, T x = some (.pu g) ∧ PfOk M k x n g
  | .dw => ∃ n g, T x = some (.dw g) ∧ DwOk M k x n g
  | .mu j => ∃ n g, T x = some (.mu j g) ∧ MuOk M k x n j g
  | .co d => CoOk M x d
  | .ec => EcOk M x
def AllEnt (M : Md) (k : Nat) (T : Tab) : List (Str × GK) → Prop
  | [] => True
  | (x, g) :: G => Ent M k T x g ∧ AllEnt M k T G
section
variable {M : Md} {k k' : Nat} {T : Tab} {G : List (Str × GK)} {x : Str} {n j : Nat}
theorem AllEnt.get : ∀ {G : List (Str × GK)} {x : Str} {g : GK}, AllEnt M k T G → G.lookup x = some g → Ent M k T x g
  | (y, h) :: G, x, g, a, e => by
    rw [List.lookup_cons] at e
    split at e
    · rename_i hxy
      injection e with e; subst e
      have : x = y := by simpa using hxy
      subst this
      exact a.1
    · exact AllEnt.get a.2 e
def Bl (M : Md) : Prop := ∀ b ∈ blts, M.mg b = none
theorem tabOk (hb : Bl M) (a : AllEnt M k T G) : TabOk M.P M.w M.K M.mg M.base G T k where
  bl := fun b h _ => hb b h
  co := fun x d h => a.get h
  pu := fun x h => let ⟨n, g, e, f, fd, ps, q⟩ := a.get h; ⟨g, f, fd, ps, n, e, q⟩
  pf := fun x h => let ⟨n, g, e, f, fd, ps, q⟩ := a.get h; ⟨g, f, fd, ps, n, e, q⟩
  dw := fun x h => let ⟨n, g, e, f, fd, ps, q⟩ := a.get h; ⟨g, f, fd, ps, n, e, q⟩
  mu := fun x j h => let ⟨n, g, e, f, fd, ps, q⟩ := a.get h; ⟨g, f, fd, ps, n, e, q⟩
  ec := fun x h => a.get h
theorem PuOk.le {g} (h : PuOk M k x n g) (l : k ≤ k') : PuOk M k' x n g := let ⟨f, fd, ps, a, b⟩ := h; ⟨f, fd, ps, a.mono l, b⟩
theorem PfOk.le {g} (h : PfOk M k x n g) (l : k ≤ k') : PfOk M k' x n g := let ⟨f, fd, ps, a, b⟩ := h; ⟨f, fd, ps, a.mono l, b⟩
theorem DwOk.le {g} (h : DwOk M k x n g) (l : k ≤ k') : DwOk M k' x n g := let ⟨f, fd, ps, a, b⟩ := h; ⟨f, fd, ps, a.mono l, b⟩
theorem MuOk.le {g} (h : MuOk M k x n j g) (l : k ≤ k') : MuOk M k' x n j g := let ⟨f, fd, ps, a, b⟩ := h; ⟨f, fd, ps, a.mono l, b⟩
/-- a def of the module -/
def DF (M : Md) (x : Str) (params : Arguments) (body : List Stmt) (scope : Scope) (ps : List Str) : Prop := ∃ f fd, FunD M.K x x params body scope [] [] f fd ∧ M.mg x = some (.ref f) ∧ Binds M.K fd ps []
variable {params : Arguments} {body : List Stmt} {scope : Scope} {N ps : List Str} {A : S}
theorem pu_of (hb : Bl M) (d : DF M x params body scope ps) (sc : FnScope N ps scope) (hN : ps.length ≤ N.length) (a : AllEnt M k T G) (c : cmpSs (ctx N scope G) 60 body = some A) : PuOk M (k + 1) x ps.length (runP T ps.length N.length A) :=
  let ⟨f, fd, F, m, b⟩ := d
  ⟨f, fd, ps, ok_pu (tabOk hb a) F sc hN (by decide) c, m, F.kp, b, rfl, fun ds h => by unfold runP; rw [if_neg h]⟩
/-- the expression that a def returns, if that is all -/
def retE : List Stmt → Expr
  | [.Return (some e) _] => e
  | _ => .Constant .none 0 ⟨0, 0, 0, 0⟩
def isRet : List Stmt → Bool
  | [.Return (some _) _] => true
  | _ => false
theorem ret_eq {b : List Stmt} (h : isRet b = true) : ∃ p, b = [.Return (some (retE b)) p] := by
  unfold isRet at h
  split at h
  · exact ⟨_, rfl⟩
  · cases h
theorem pf_of {E' : E} (hb : Bl M) (d : DF M x params body scope ps) (sc : FnScope N ps scope) (hN : ps.length ≤ N.length) (a : AllEnt M k T G) (hr : isRet body = true) (c : cmpE (ctx N scope G) 60 (retE body) = some E') (hf : fresh E' = true) : PfOk M (k + 1) x ps.length (runP T ps.length N.length (.sq (.ret E') .sk)) :=
  let ⟨f, fd, F, m, b⟩ := d
  let ⟨_, he⟩ := ret_eq hr
  ⟨f, fd, ps, ok_pf (tabOk hb a) (he ▸ F) sc hN (by decide) c hf, m, F.kp, b, rfl, fun ds h => by unfold runP; rw [if_neg h]⟩
theorem dw_of (hb : Bl M) (d : DF M x params body scope ps) (sc : FnScope N ps scope) (hm : ps.length = n + 1) (hN : ps.length ≤ N.length) (a : AllEnt M k T G) (c : cmpSs (ctx N scope G) 60 body = some A) : DwOk M (k + 1) x n (runD T n N.length A) :=
  let ⟨f, fd, F, m, b⟩ := d
  ⟨f, fd, ps, ok_dw (tabOk hb a) F sc hm hN (by decide) c, m, F.kp, b, hm, fun ds q h => by unfold runD; rw [if_neg h]⟩
theorem mu_of (hb : Bl M) (d : DF M x params body scope ps) (sc : FnScope N ps scope) (hj : j < ps.length) (hN : ps.length ≤ N.length) (a : AllEnt M k T G) (c : cmpSs (ctx N scope G) 60 body = some A) : MuOk M (k + 1) x ps.length j (runM T ps.length N.length A j) :=
  let ⟨f, fd, F, m, b⟩ := d
  ⟨f, fd, ps, ok_mu (tabOk hb a) F sc hj hN (by decide) c, m, F.kp, b, rfl, fun ds h => by unfold runM; rw [if_neg (by simp [h])]⟩
/-- an exception of some world -/
def CXA (P : Program) : CXT := fun outer H s E u s' => ∃ w, L2.CX P w outer H s E u s'
theorem cxa {P : Program} {w : World} {K : PySem.W.Frag} {mg : Str → Option Value} {base : Heap} {f : Addr} {fd : FuncData} {ps : List Str} {sp : Sp} (F : FnOk P w K mg base (L2.CX P w) k f fd ps sp) : FnOk P w K mg base (CXA P) k f fd ps sp :=
  ⟨F.len, fun A outer s H args us vs Q E hr he hb hv hs => codeAny_mono (F.run A outer s H args us vs Q E hr he hb hv hs) fun r s' h => by
    cases r with
    | ok o => cases o <;> exact h
    | error e => exact ⟨w, h⟩⟩
/-! ### constants -/
theorem co_int {h : Heap} (X : M.K.In h) (E : h.Ns mainGlobals M.mg) {i : Int} (c : (He.Fa.int x i).ok M.K = true) : CoOk M x (.int i) :=
  let ⟨t, e⟩ := He.int_ok X E c
  ⟨_, .int i, e, ⟨t, rfl⟩, fun _ _ => by simp [Dat]⟩
/-- values that hold no object -/
def dvD : He.Dv → Option D
  | .non => some .none
  | .bl b => some (.bool b)
  | .int i => some (.int i)
  | .str x => some (.str x)
  | _ => none
theorem dvs_dat {K : PySem.W.Frag} {H : Hp} {A : Addr → Prop} : ∀ {vs : List He.Dv} {ds : List D}, vs.map dvD = ds.map some → DatL K H A (vs.map (He.Dv.v K)) ds
  | [], [], _ => trivial
  | v :: vs, d :: ds, h => by
    simp only [List.map_cons, List.cons.injEq] at h
    obtain ⟨h1, h2⟩ := h
    refine ⟨?_, dvs_dat h2⟩
    cases v <;> simp only [dvD, Option.some.injEq] at h1 <;> first | (subst h1; simp [Dat, He.Dv.v]) | (cases h1)
  | [], _ :: _, h => by simp at h
  | _ :: _, [], h => by simp at h
theorem co_tup {h : Heap} (X : M.K.In h) (E : h.Ns mainGlobals M.mg) {vs : List He.Dv} {ds : List D} (g : (He.Fa.glo x).ok M.K = true) (c : He.tupB M.K x vs = true) (e : vs.map dvD = ds.map some) : CoOk M x (.tuple ds) := by
  refine ⟨_, .ref (He.ga M.K x), He.glo_ok X E g, rfl, fun H A => ?_⟩
  simp only [Dat]
  refine ⟨_, _, rfl, .inr ?_, dvs_dat e⟩
  rcases He.tupB_ok c (fun _ => none) with (z | ⟨_, z⟩) | z
  · cases z
  · cases z
  · exact z
theorem ec_of {h : Heap} (X : M.K.In h) (E : h.Ns mainGlobals M.mg) (g : (He.Fa.glo x).ok M.K = true) (c : (He.Fa.exc x).ok M.K = true) : EcOk M x := ⟨_, He.glo_ok X E g, He.exc_ok c⟩
end
end Tk
set_option linter.all false
set_option Elab.async false
set_option maxRecDepth 100000
set_option maxHeartbeats 1000000
/-! TkRep: texts replaced, in a def that begins with a written text. -/
namespace Tk
open PySem L2 PySem.Spec PyProof.Rows
section
variable {F : Tab} {W : WS} {X : Cx} {c : Ctx} {a b e : Expr} {ea eb : E} {pos : Pos} {te te' : TE}
theorem pet_imp (h : PET X e te) (i : ∀ σ H Q, te' σ H Q → te σ H Q) : PET X e te' := fun pins s σ H Q h0 I q => h pins s σ H Q h0 I (i σ H Q q)
theorem pat_imp {es : List Expr} {t t' : TA} (h : PAT X es t) (i : ∀ σ H Q, t' σ H Q → t σ H Q) : PAT X es t' := fun pos pins s σ H Q h0 I q => h pos pins s σ H Q h0 I (i σ H Q q)
theorem pst_imp {s : Stmt} {t t' : TS} (h : PST X s t) (i : ∀ D σ H, t' D σ H → t D σ H) : PST X s t' := fun pins s σ H D h0 I q => h pins s σ H D h0 I (i D σ H q)
theorem psst_imp {s : List Stmt} {t t' : TS} (h : PSsT X s t) (i : ∀ D σ H, t' D σ H → t D σ H) : PSsT X s t' := fun pins s σ H D h0 I q => h pins s σ H D h0 I (i D σ H q)
theorem petE (h : PE X e te) : PET X e te := fun pins s σ H Q _ I q => h.run pins s σ H Q I q
theorem rep_add (ha : PET X a (tD F X.K W ea)) (hb : PET X b (tD F X.K W eb)) : PET X (.BinOp a .Add b pos) (tD F X.K W (.bin .add ea eb)) := by
  refine pet_imp (CwR.pet_op (op_add.or (op_add_str.or (op_cat.or op_catA))) ha hb) fun σ H Q ⟨Φ, ρ, δ, r, q⟩ => ?_
  simp only [ev] at q
  refine PostG.bind r q fun x H1 d1 δ1 r1 g1 q1 _ q => ?_
  refine PostG.bind r1 q fun y H2 d2 δ2 r2 g2 q2 _ q => ?_
  have q1 := g2.dat2 (r1.drA _) (r1.drA _) q1
  cases e : opD .add d1 d2 with
  | none => rw [e] at q; exact q.elim
  | some d =>
    rw [e] at q
    have s1 : ∀ i ∈ esc1 ea, i ∈ esc1 (.bin .add ea eb) := fun i hi => by simp only [esc1, List.mem_append]; exact .inl hi
    have s2 : ∀ i ∈ esc1 eb, i ∈ esc1 (.bin .add ea eb) := fun i hi => by simp only [esc1, List.mem_append]; exact .inr hi
    rcases opD_add e with ⟨i, j, rfl, rfl, rfl⟩ | ⟨i, j, rfl, rfl, hz, rfl⟩ | ⟨i, j, rfl, rfl, hz, rfl⟩ | ⟨i, j, rfl, rfl, hz, rfl⟩
    · simp only [Dat2, Dat] at q1 q2
      subst q1; subst q2
      exact .inl ⟨_, _, rfl, rfl, PE1.scal rfl (q H2 Gr.refl r2.ds) (by simp [Dat])⟩
    · simp only [Dat2, Dat] at q1 q2
      subst q1; subst q2
      exact .inr (.inl ⟨_, _, rfl, rfl, Nat.le_trans hz big_ok, PE1.scal rfl (q H2 Gr.refl r2.ds) (by simp [Dat])⟩)
    · simp only [Dat2] at q1 q2
      obtain ⟨p1, xs, rfl, h1, n1, l1⟩ := q1
      obtain ⟨p2, ys, rfl, h2, n2, l2⟩ := q2
      refine .inr (.inr (.inl ⟨p1, p2, xs, ys, rfl, rfl, h1, h2, by rw [l1.length, l2.length]; exact Nat.le_trans hz big_ok, fun p hp => ?_⟩))
      exact PE1.newL r (g1.trans g2) r2 q ((AvX.sub s1 l1).append (AvX.sub s2 l2)) hp
    · simp only [Dat2] at q1 q2
      obtain ⟨p1, xs, rfl, h1, l1⟩ := q1
      obtain ⟨p2, ys, rfl, h2, l2⟩ := q2
      have l3 := (AvX.sub s1 l1).append (AvX.sub s2 l2)
      refine .inr (.inr (.inr ⟨p1, p2, xs, ys, rfl, rfl, ktSq h1, ktSq h2, by rw [l1.length, l2.length]; exact Nat.le_trans hz big_ok, fun e => ?_, fun _ e => ?_, fun _ _ p hp => PE1.newT r2 q l3 hp⟩))
      · subst e; exact PE1.oldT r2 q h2 l3
      · subst e
        rw [List.append_nil] at l3
        exact PE1.oldT r2 q h1 l3
theorem rep_nil : PAT X [] (tDs F X.K W .nil) := pat_imp pat_nil fun σ H Q ⟨Φ, ρ, δ, r, q⟩ => q H Gr.refl r.ds [] trivial
theorem rep_cons {as : List Expr} {es : Es} (ha : PET X a (tD F X.K W ea)) (hr : PAT X as (tDs F X.K W es)) (hs : starEach (a :: as) X.env = (false, eval a X.env) :: starEach as X.env) : PAT X (a :: as) (tDs F X.K W (.cons ea es)) := by
  refine pat_imp (pat_cons ha hr hs) fun σ H Q ⟨Φ, ρ, δ, r, q⟩ => ?_
  simp only [evs] at q
  refine PostG.bind r q fun x H1 d1 δ1 r1 g1 q1 _ q => PostG.binds r1 q fun vs H2 ds δ2 r2 g2 q2 q => ?_
  refine q H2 Gr.refl r2.ds (x :: vs) ?_
  simp only [ArgL]
  exact ⟨g2.dat2 (r1.drA _) (r1.drA _) q1, q2⟩
theorem rep_ls {as : List Expr} {es : Es} (h : PAT X as (tDs F X.K W es)) (hz : es.len ≤ sizeLine) : PET X (.List as pos) (tD F X.K W (.ls es)) := by
  refine pet_imp (pet_lst h) fun σ H Q ⟨Φ, ρ, δ, r, q⟩ => ?_
  simp only [ev] at q
  refine PostG.binds r q fun vs H1 ds δ1 r1 g1 q1 q => ⟨by rw [argL_len q1]; exact hz, fun p hp => ?_⟩
  exact PE1.newL r g1 r1 q (AvX.sub (fun i hi => by simpa [esc1] using hi) q1.dat) hp
theorem rep_repl {i : Nat} {x y z : Str} {j k : Nat} {px c0 c1 apos : Pos} (hx : PE X (.Name x px) (tD F X.K W (.v i))) (hyz : (y == z) = false) (hl : (apos.endLine == pos.line) = true) :
    PET X (.Call (.Attribute (.Name x px) "replace" apos) [.Constant (.str y) j c0, .Constant (.str z) k c1] [] pos) (tD F X.K W (.bu (.repl y z) (.cons (.v i) .nil))) := by
  refine pet_imp (CwR.pet_replC hx hyz rfl rfl hl) fun σ H Q ⟨Φ, ρ, δ, r, q⟩ => ?_
  have e : ev F (.bu (.repl y z) (.cons (.v i) .nil)) ρ δ = (ev F (.v i) ρ δ).bind fun x δ => R.ofOpt δ (buD (.repl y z) [x]) := by
    simp only [ev, evs]
    cases look ρ i <;> rfl
  rw [e] at q
  refine PostG.bind r q fun v H1 d δ1 r1 g1 q1 _ q => ?_
  cases d with
  | str w =>
    simp only [buD] at q
    split at q
    · rename_i hz
      simp only [Dat2, Dat] at q1
      subst q1
      have er : mkS (StrLaws.replL y.cps.toList z.cps.toList w.cps.toList) = Txt.replace w y z := TL.ext_tl (StrLaws.replace_list hz.1).symm
      rw [er] at q
      exact ⟨w, rfl, hz.2, PE1.scal rfl (q H1 Gr.refl r1.ds) (by simp [Dat])⟩
    · exact q.elim
  | _ => exact q.elim
theorem rep_set {x : Str} {i : Nat} {E' : E} {py : Pos} (G : GoodS c F X W) (ht : tgOf c x = some i) (hc : isComp e = false) (he : PET X e (tD F X.K W E')) : PST X (.Assign [.Name x py] e pos) (tS F X.K W (.set i E')) := by
  obtain ⟨h1, h2, h3⟩ := tg_ok G.N G.sc G.fn ht
  refine pst_imp (t := tAsg (tD F X.K W E') (gName i)) (fun pins s σ H D h0 I h => ?_) fun Dn σ H h => i_set h
  exact wpAny_Assign_Name (thn (he pins s σ H _ h0 I h) fun v s1 ⟨y, H1, I1, r1, q1⟩ => store_ok I1 G.nd h1 h2 r1 (fun s2 I2 => ⟨_, H1, I2, q1⟩) h3) (swaps_no hc)
theorem i_seq {a b : S} {K : PySem.W.Frag} {Dn : Ends} {σ : L2.St} {H : Hp} (h : tS F K W (.sq a b) Dn σ H) : tSeq (tS F K W a) (tS F K W b) Dn σ H := by
  obtain ⟨Φ, ρ, δ, r, q⟩ := h
  simp only [exec] at q
  refine ⟨Φ, ρ, δ, r, ?_⟩
  cases qe : exec F a ρ δ with
  | ok f δ1 =>
    rw [qe] at q
    cases f with
    | nx ρ' => exact fun σ' H' r' so => ⟨Φ, ρ', δ1, r', PostS.weak q so (fun i hi => by simp only [asg, List.mem_append]; exact .inl hi) (fun i hi => by simp only [asg, List.mem_append]; exact .inr hi)⟩
    | rt d => exact q
  | er e δ1 => rw [qe] at q; exact q
  | bad => rw [qe] at q; exact q
theorem rep_seq {s : Stmt} {l : List Stmt} {a b : S} (h1 : PST X s (tS F X.K W a)) (h2 : PSsT X l (tS F X.K W b)) : PSsT X (s :: l) (tS F X.K W (.sq a b)) := by
  refine psst_imp (psst_cons h1 h2) fun Dn σ H h => i_seq h
/-- a first row x = "..", then the rest -/
theorem rep_first {x s : Str} {i j : Nat} {l : List Stmt} {b : S} {cp py : Pos} (G : GoodS c F X W) (ht : tgOf c x = some i) (h2 : PSsT X l (tS F X.K W b)) : PSs X (.Assign [.Name x py] (.Constant (.str s) j cp) pos :: l) (tS F X.K W (.sq (.set i (.k (.str s))) b)) := by
  obtain ⟨g1, g2, g3⟩ := tg_ok G.N G.sc G.fn ht
  refine PSs.imp (pss_str G.nd g1 g2 h2 rfl g3) fun Dn σ H h => ?_
  have h3 : tAsg (tD F X.K W (.k (.str s))) (gName i) { Dn with nx := tS F X.K W b Dn } σ H := i_set (i_seq h)
  obtain ⟨Φ, ρ, δ, r, q⟩ := h3
  exact q H Gr.refl r.ds (.str s) (by simp [Dat2, Dat]) (fun z => nomatch z)
end
/-! ### compiled -/
mutual
def cmpET (c : Ctx) : Nat → Expr → Option E
  | 0, _ => none
  | n + 1, e => match e with
    | .List es _ => (cmpEsT c n es).map .ls
    | .BinOp a .Add (.List es _) _ => match cmpE c n a, cmpEsT c n es with
      | some a, some es => some (.bin .add a (.ls es))
      | _, _ => none
    | .Call (.Attribute (.Name x _) nm apos) [.Constant (.str y) _ _, .Constant (.str z) _ _] [] cpos => if nm = "replace" && apos.endLine == cpos.line && !(y == z) then (slotOf c x).map fun i => .bu (.repl y z) (.cons (.v i) .nil) else none
    | e => cmpE c n e
def cmpEsT (c : Ctx) : Nat → List Expr → Option Es
  | 0, _ => none
  | n + 1, es => match es with
    | [] => some .nil
    | e :: es => match cmpET c n e, cmpEsT c n es with
      | some a, some l => if isStar e then none else some (.cons a l)
      | _, _ => none
end
def cmpST (c : Ctx) : Nat → List Stmt → Option S
  | 0, _ => none
  | n + 1, l => match l with
    | .Assign [.Name x px] e p :: l => match tgOf c x, cmpET c n e, cmpST c n l with
      | some i, some e', some b => if isComp e then none else some (.sq (.set i e') b)
      | _, _, _ => none
    | l => cmpSs c n l
section
variable {F : Tab} {W : WS} {X : Cx} {c : Ctx}
theorem ok_et (G : Good c F X W) : ∀ n, n ≤ 1000 → (∀ e E', cmpET c n e = some E' → PET X e (tD F X.K W E')) ∧ ∀ es L, cmpEsT c n es = some L → PAT X es (tDs F X.K W L) ∧ L.len ≤ n
  | 0, _ => ⟨fun e E' h => by simp [cmpET] at h, fun es L h => by simp [cmpEsT] at h⟩
  | n + 1, hn => by
    obtain ⟨i1, i2⟩ := ok_et G n (by omega)
    have EE : ∀ {e E'}, cmpE c n e = some E' → PET X e (tD F X.K W E') := fun h => petE ((allOk F n (by omega) c).e G h).1
    refine ⟨fun e E' h => ?_, fun es L h => ?_⟩
    · unfold cmpET at h
      split at h
      · rename_i es p
        cases e1 : cmpEsT c n es with
        | none => rw [e1] at h; cases h
        | some L =>
          rw [e1] at h
          injection h with h; subst h
          obtain ⟨g1, g2⟩ := i2 es L e1
          exact rep_ls g1 (by rw [sizeLine_eq]; omega)
      · rename_i a es p p2
        split at h
        · rename_i a' L h1 h2
          injection h with h; subst h
          obtain ⟨g1, g2⟩ := i2 es L h2
          exact rep_add (EE h1) (rep_ls g1 (by rw [sizeLine_eq]; omega))
        · cases h
      · rename_i x px nm apos y k1 c0 z k2 c1 cpos
        split at h
        · rename_i hc
          simp only [Bool.and_eq_true, decide_eq_true_eq, Bool.not_eq_true'] at hc
          obtain ⟨⟨hc1, hc2⟩, hc3⟩ := hc
          subst hc1
          cases e1 : slotOf c x with
          | none => rw [e1] at h; cases h
          | some i =>
            rw [e1] at h
            injection h with h; subst h
            obtain ⟨s1, s2, s3, s4⟩ := slot_ok G e1
            exact rep_repl (d_v s1 s2 s3 s4) hc3 hc2
        · cases h
      · exact EE h
    · unfold cmpEsT at h
      split at h
      · injection h with h; subst h
        exact ⟨rep_nil, Nat.zero_le _⟩
      · rename_i e es
        split at h
        · rename_i a L h1 h2
          split at h
          · cases h
          · rename_i hst
            injection h with h; subst h
            obtain ⟨g1, g2⟩ := i2 es L h2
            exact ⟨rep_cons (i1 e a h1) g1 (star1 (by simpa using hst)), by simp only [Es.len]; omega⟩
        · cases h
theorem ok_st (G : GoodS c F X W) : ∀ n, n ≤ 1000 → ∀ l S', cmpST c n l = some S' → PSsT X l (tS F X.K W S')
  | 0, _, l, S', h => by simp [cmpST] at h
  | n + 1, hn, l, S', h => by
    unfold cmpST at h
    split at h
    · rename_i x px e p l
      split at h
      · rename_i i e' b h1 h2 h3
        split at h
        · cases h
        · rename_i hc
          injection h with h; subst h
          exact rep_seq (rep_set G h1 (by simpa using hc) ((ok_et G.toGood n (by omega)).1 e e' h2)) (ok_st G n (by omega) l b h3)
      · cases h
    · exact PSsT.of ((sOk F n (by omega) c).ss G h)
end
section
variable {P : Program} {w : World} {K : PySem.W.Frag} {mg : Str → Option Value} {base : Heap} {G : List (Str × GK)} {F : Tab} {k : Nat} {N ps : List Str} {qual x y s : Str} {params : Arguments} {rest : List Stmt} {scope : Scope} {f : Addr} {fd : FuncData} {S' : S} {i j : Nat} {p1 p2 p3 : Pos}
theorem ok_rep (T : TabOk P w K mg base G F k) (Fd : FunD K x qual params (.Assign [.Name y p1] (.Constant (.str s) j p2) p3 :: rest) scope [] [] f fd) (sc : FnScope N ps scope) (hN : ps.length ≤ N.length) {n : Nat} (hn : n ≤ 1000) (ht : tgOf (ctx N scope G) y = some i) (h : cmpST (ctx N scope G) n rest = some S') :
    FnOk P w K mg base (L2.CX P w) (k + 1) f fd ps (spP K mg ps.length (runP F ps.length N.length (.sq (.set i (.k (.str s))) S'))) := by
  refine Fd.ok sc (fun vs H Q E h => h.1) fun cdv A outer sh H vs Q E hr hsp => ⟨_, rep_first (good_def T sc hr) ht (ok_st (good_def T sc hr) n hn _ _ h), ?_⟩
  obtain ⟨hl, ds, A', al, dat, m⟩ := hsp
  have hds : ds.length = ps.length := by rw [← dat.length]; exact hl
  refine ⟨fm0 A' H (fun _ => False) none, enter N.length ds, none, rel0 al dat, ?_⟩
  unfold runP at m
  rw [if_pos hds] at m
  have ex : ∀ {H' δ'}, EndOk (fm0 A' H (fun _ => False) none) H' δ' → Ex H H' := fun h a o e => h.2 a o e (fun z => z) (fun ⟨_, _, z, _⟩ => nomatch z)
  cases qe : exec F (.sq (.set i (.k (.str s))) S') (enter N.length ds) none with
  | ok fl δ1 =>
    rw [qe] at m
    cases fl with
    | nx ρ' => exact fun σ' H' r' _ => m .non H' (ex r'.end_) (by simp [Dat])
    | rt d => exact fun v H' e dd => m v H' (ex e) dd
  | er c δ1 =>
    rw [qe] at m
    exact fun σ' H' e C hC => m C H' hC (ex e)
  | bad => rw [qe] at m; exact m
end
/-! ### tables -/
section
variable {M : Md} {k n : Nat} {T : Tab} {G : List (Str × GK)} {x : Str} {params : Arguments} {scope : Scope} {N ps : List Str}
def ErOk (M : Md) (k : Nat) (ad : Str → Addr) : Prop := ∃ f fd, FnOk M.P M.w M.K M.mg M.base (L2.CX M.P M.w) k f fd ["caught"] (spErr ad) ∧ M.mg ("_law_error" : Str) = some (.ref f) ∧ PySem.W.keepIn M.K (.ref f) = true ∧ Binds M.K fd ["caught"] []
theorem rep_of {y s : Str} {i j : Nat} {p1 p2 p3 : Pos} {rest : List Stmt} {A : S} (hb : Bl M) (d : DF M x params (.Assign [.Name y p1] (.Constant (.str s) j p2) p3 :: rest) scope ps) (sc : FnScope N ps scope) (hN : ps.length ≤ N.length) (a : AllEnt M k T G) (ht : tgOf (ctx N scope G) y = some i) (c : cmpST (ctx N scope G) 60 rest = some A) :
    PuOk M (k + 1) x ps.length (runP T ps.length N.length (.sq (.set i (.k (.str s))) A)) :=
  let ⟨f, fd, F, m, b⟩ := d
  ⟨f, fd, ps, ok_rep (tabOk hb a) F sc hN (by decide) ht c, m, F.kp, b, rfl, fun ds h => by unfold runP; rw [if_neg h]⟩
theorem tr_of {ad : Str → Addr} {e : Expr} {E' : E} {p1 p2 p3 p4 p5 p6 p7 p8 p9 p10 p11 p12 p13 p14 p15 p16 p17 p18 p19 p20 p21 p22 p23 : Pos} {k1 k2 k3 : Nat} {i j l : Nat} (hb : Bl M)
    (d : DF M x params [.Assign [.Name "found" p1] (.Constant .none k1 p2) p3, .Assign [.Name "caught" p4] (.Constant .none k2 p5) p6,
      .Try [.Assign [.Name "found" p7] e p8] [.ExceptHandler (some (.Name "TickError" p9)) (some "e") [.Assign [.Name "caught" p10] (.Name "e" p11) p12] p13] [] [] p14,
      .Return (some (.IfExp (.Compare (.Name "caught" p15) [.Is] [.Constant .none k3 p16] p17) (.Name "found" p18) (.Call (.Name "_law_error" p19) [.Name "caught" p20] [] p21) p22)) p23] scope ps)
    (sc : FnScope N ps scope) (hN : ps.length ≤ N.length) (a : AllEnt M k T G) (hi : N[i]? = some ("found" : Str)) (hj : N[j]? = some ("caught" : Str)) (hl : N[l]? = some ("e" : Str)) (h1 : (i != j && i != l && j != l && decide (ps.length ≤ i) && decide (ps.length ≤ j)) = true)
    (vv : ∀ x ∈ (["found", "caught", "e"] : List Str), scope.names.lookup x = some .local) (gg : ∀ x ∈ (["TickError", "_law_error"] : List Str), scope.names.lookup x = some .globalImplicit) (hc : cmpE (ctx N scope G) 60 e = some E') (hfr : fresh E' = false) (ti : tgOf (ctx N scope G) "found" = some i)
    (R : ErrOk M.K M.mg ad) (er : ErOk M k ad) : PuOk M (k + 1) x ps.length (runT T ps.length N.length i j E') := by
  obtain ⟨f, fd, F, m, b⟩ := d
  obtain ⟨f0, fd0, F0, m0, kp0, b0⟩ := er
  simp only [Bool.and_eq_true, bne_iff_ne, decide_eq_true_eq] at h1
  exact ⟨f, fd, ps, ok_try (tabOk hb a) F sc hN hi hj hl h1.1.1.1.1 h1.1.1.1.2 h1.1.1.2 h1.1.2 h1.2 (vv _ (by simp)) (vv _ (by simp)) (vv _ (by simp)) (gg _ (by simp)) (gg _ (by simp)) (by decide) hc hfr ti R F0 m0 kp0 b0, m, F.kp, b, rfl, fun ds h => by unfold runT; rw [if_neg h]⟩
end
def excCB (K : PySem.W.Frag) (D : Addr) : Bool := decide (PySem.W.findIn K (.ref D) "__getattribute__" = some (some (.builtin "BaseException.__getattribute__"))) && decide (PySem.W.findIn K (.ref D) "__getattr__" = some none) && decide (PySem.W.subIn K (.ref D) (.type "BaseException") = some true) &&
  PySem.W.hasDictIn K D && decide (PySem.W.findIn K (.ref D) "__class__" = some (some (.builtin "object.__class__"))) && decide (PySem.W.specialIn K (.builtin "object.__class__") "__get__" = some (some (.builtin "getset_descriptor.__get__"))) && decide (PySem.W.takesIn K (.builtin "object.__class__") = some true) && decide (PySem.W.mroIn K D (.type "object") = some true)
def errB (K : PySem.W.Frag) : Bool := exc6.all fun x => excCB K (He.ga K x) && exc6.all (fun y => decide (PySem.W.kitOne K (.ref (He.ga K x)) (.ref (He.ga K y)) = some (decide (x = y)))) && decide (PySem.W.kitOne K (.ref (He.ga K x)) (.ref (He.ga K "TickError")) = some true) &&
  decide (PySem.W.kitOne K (.ref (He.ga K x)) (.type "ValueError") = some true) && decide (PySem.W.exmOne K (.ref (He.ga K x)) (.ref (He.ga K "TickError")) = some true)
theorem errOk_of {K : PySem.W.Frag} {mg : Str → Option Value} (g : ∀ x ∈ exc7, mg x = some (.ref (He.ga K x))) (c : errB K = true) : ErrOk K mg (He.ga K) := by
  simp only [errB, List.all_eq_true, Bool.and_eq_true, decide_eq_true_eq] at c
  refine ⟨g, fun x hx => ?_, fun x hx y hy => (c x hx).1.1.1.2 y hy, fun x hx => (c x hx).1.1.2, fun x hx => (c x hx).1.2, fun x hx => (c x hx).2⟩
  have h := (c x hx).1.1.1.1
  simp only [excCB, Bool.and_eq_true, decide_eq_true_eq] at h
  exact ⟨h.1.1.1.1.1.1.1, h.1.1.1.1.1.1.2, h.1.1.1.1.1.2, h.1.1.1.1.2, h.1.1.1.2, h.1.1.2, h.1.2, h.2⟩
end Tk
set_option linter.all false
set_option Elab.async false
set_option maxRecDepth 100000
set_option maxHeartbeats 1000000
namespace Tk
open PySem L2
def top (i : Nat) : Stmt := PySem.Challenge.pw_treeticks_k02_whole_states.main.body.getD i (.Pass ⟨0, 0, 0, 0⟩)
abbrev DFT (M : Md) (x : Str) (i : Nat) (ps : List Str) : Prop := DF M x (defArgs (top i)) (defBody (top i)) (defScope (top i)) ps
theorem o_is_int {M : Md} (hb : Bl M) (d : DFT M "is_int" 8 ["value", "low", "high"])  : PuOk M 1 "is_int" 3 M_is_int :=
  pu_of (N := ["value", "low", "high"]) (ps := ["value", "low", "high"]) (T := T_is_int) (G := []) (A := A_is_int) (k := 0) hb d ⟨rfl, rfl, rfl, by decide +kernel, rfl, by decide +kernel, by decide +kernel⟩ (by decide) trivial (by kernel_rfl)
theorem o_is_tree {M : Md} (hb : Bl M) (d : DFT M "is_tree" 11 ["value"]) (e_MOST_BOXES : CoOk M "MOST_BOXES" (.int 5)) (e_is_int : PuOk M 1 "is_int" 3 M_is_int) : PuOk M 2 "is_tree" 1 M_is_tree :=
  pu_of (N := ["value", "one", "falls", "later"]) (ps := ["value"]) (T := T_is_tree) (G := [("MOST_BOXES", .co (.int 5)), ("is_int", .pu)]) (A := A_is_tree) (k := 1) hb d ⟨rfl, rfl, rfl, by decide +kernel, rfl, by decide +kernel, by decide +kernel⟩ (by decide) ⟨e_MOST_BOXES, ⟨_, _, rfl, e_is_int.le (by decide)⟩, trivial⟩ (by kernel_rfl)
theorem o_check_tree {M : Md} (hb : Bl M) (d : DFT M "check_tree" 12 ["value"]) (e_is_tree : PuOk M 2 "is_tree" 1 M_is_tree) (e_BadNumber : EcOk M "BadNumber") : PuOk M 3 "check_tree" 1 M_check_tree :=
  pu_of (N := ["value"]) (ps := ["value"]) (T := T_check_tree) (G := [("is_tree", .pu), ("BadNumber", .ec)]) (A := A_check_tree) (k := 2) hb d ⟨rfl, rfl, rfl, by decide +kernel, rfl, by decide +kernel, by decide +kernel⟩ (by decide) ⟨⟨_, _, rfl, e_is_tree.le (by decide)⟩, e_BadNumber, trivial⟩ (by kernel_rfl)
theorem o_parent_of {M : Md} (hb : Bl M) (d : DFT M "parent_of" 13 ["tree", "box"])  : PuOk M 1 "parent_of" 2 M_parent_of :=
  pu_of (N := ["tree", "box", "above", "one"]) (ps := ["tree", "box"]) (T := T_parent_of) (G := []) (A := A_parent_of) (k := 0) hb d ⟨rfl, rfl, rfl, by decide +kernel, rfl, by decide +kernel, by decide +kernel⟩ (by decide) trivial (by kernel_rfl)
theorem o_children_of {M : Md} (hb : Bl M) (d : DFT M "children_of" 14 ["tree", "box"]) (e_parent_of : PuOk M 1 "parent_of" 2 M_parent_of) : PuOk M 2 "children_of" 2 M_children_of :=
  pu_of (N := ["tree", "box", "one"]) (ps := ["tree", "box"]) (T := T_children_of) (G := [("parent_of", .pu)]) (A := A_children_of) (k := 1) hb d ⟨rfl, rfl, rfl, by decide +kernel, rfl, by decide +kernel, by decide +kernel⟩ (by decide) ⟨⟨_, _, rfl, e_parent_of.le (by decide)⟩, trivial⟩ (by kernel_rfl)
theorem o_leaves_of {M : Md} (hb : Bl M) (d : DFT M "leaves_of" 15 ["tree"])  : PuOk M 1 "leaves_of" 1 M_leaves_of :=
  pu_of (N := ["tree", "box"]) (ps := ["tree"]) (T := T_leaves_of) (G := []) (A := A_leaves_of) (k := 0) hb d ⟨rfl, rfl, rfl, by decide +kernel, rfl, by decide +kernel, by decide +kernel⟩ (by decide) trivial (by kernel_rfl)
theorem o_below {M : Md} (hb : Bl M) (d : DFT M "below" 16 ["tree", "box"])  : PuOk M 1 "below" 2 M_below :=
  pu_of (N := ["tree", "box", "found", "one"]) (ps := ["tree", "box"]) (T := T_below) (G := []) (A := A_below) (k := 0) hb d ⟨rfl, rfl, rfl, by decide +kernel, rfl, by decide +kernel, by decide +kernel⟩ (by decide) trivial (by kernel_rfl)
theorem o_deeds_of {M : Md} (hb : Bl M) (d : DFT M "deeds_of" 20 ["tree"]) (e_KINDS : CoOk M "KINDS" (.tuple [(.str "click"), (.str "all"), (.str "none"), (.str "turn")])) : PuOk M 1 "deeds_of" 1 M_deeds_of :=
  pu_of (N := ["tree", "box", "kind"]) (ps := ["tree"]) (T := T_deeds_of) (G := [("KINDS", .co (.tuple [(.str "click"), (.str "all"), (.str "none"), (.str "turn")]))]) (A := A_deeds_of) (k := 0) hb d ⟨rfl, rfl, rfl, by decide +kernel, rfl, by decide +kernel, by decide +kernel⟩ (by decide) ⟨e_KINDS, trivial⟩ (by kernel_rfl)
theorem o_is_one {M : Md} (hb : Bl M) (d : DFT M "is_one" 21 ["tree", "value"]) (e_KINDS : CoOk M "KINDS" (.tuple [(.str "click"), (.str "all"), (.str "none"), (.str "turn")])) (e_is_int : PuOk M 1 "is_int" 3 M_is_int) : PuOk M 2 "is_one" 2 M_is_one :=
  pu_of (N := ["tree", "value"]) (ps := ["tree", "value"]) (T := T_is_one) (G := [("KINDS", .co (.tuple [(.str "click"), (.str "all"), (.str "none"), (.str "turn")])), ("is_int", .pu)]) (A := A_is_one) (k := 1) hb d ⟨rfl, rfl, rfl, by decide +kernel, rfl, by decide +kernel, by decide +kernel⟩ (by decide) ⟨e_KINDS, ⟨_, _, rfl, e_is_int.le (by decide)⟩, trivial⟩ (by kernel_rfl)
theorem o_are_deeds {M : Md} (hb : Bl M) (d : DFT M "are_deeds" 22 ["tree", "value"]) (e_MOST_ROW : CoOk M "MOST_ROW" (.int 40)) (e_is_one : PuOk M 2 "is_one" 2 M_is_one) : PuOk M 3 "are_deeds" 2 M_are_deeds :=
  pu_of (N := ["tree", "value", "one"]) (ps := ["tree", "value"]) (T := T_are_deeds) (G := [("MOST_ROW", .co (.int 40)), ("is_one", .pu)]) (A := A_are_deeds) (k := 2) hb d ⟨rfl, rfl, rfl, by decide +kernel, rfl, by decide +kernel, by decide +kernel⟩ (by decide) ⟨e_MOST_ROW, ⟨_, _, rfl, e_is_one.le (by decide)⟩, trivial⟩ (by kernel_rfl)
theorem o_check_row {M : Md} (hb : Bl M) (d : DFT M "check_row" 23 ["tree", "value"]) (e_are_deeds : PuOk M 3 "are_deeds" 2 M_are_deeds) (e_BadDeeds : EcOk M "BadDeeds") : PuOk M 4 "check_row" 2 M_check_row :=
  pu_of (N := ["tree", "value"]) (ps := ["tree", "value"]) (T := T_check_row) (G := [("are_deeds", .pu), ("BadDeeds", .ec)]) (A := A_check_row) (k := 3) hb d ⟨rfl, rfl, rfl, by decide +kernel, rfl, by decide +kernel, by decide +kernel⟩ (by decide) ⟨⟨_, _, rfl, e_are_deeds.le (by decide)⟩, e_BadDeeds, trivial⟩ (by kernel_rfl)
theorem o_opening {M : Md} (hb : Bl M) (d : DFT M "opening" 25 ["tree"])  : PuOk M 1 "opening" 1 M_opening :=
  pu_of (N := ["tree"]) (ps := ["tree"]) (T := T_opening) (G := []) (A := A_opening) (k := 0) hb d ⟨rfl, rfl, rfl, by decide +kernel, rfl, by decide +kernel, by decide +kernel⟩ (by decide) trivial (by kernel_rfl)
theorem o_ticked {M : Md} (hb : Bl M) (d : DFT M "ticked" 26 ["tree", "state"]) (e_leaves_of : PuOk M 1 "leaves_of" 1 M_leaves_of) : PuOk M 2 "ticked" 2 M_ticked :=
  pu_of (N := ["tree", "state", "box"]) (ps := ["tree", "state"]) (T := T_ticked) (G := [("leaves_of", .pu)]) (A := A_ticked) (k := 1) hb d ⟨rfl, rfl, rfl, by decide +kernel, rfl, by decide +kernel, by decide +kernel⟩ (by decide) ⟨⟨_, _, rfl, e_leaves_of.le (by decide)⟩, trivial⟩ (by kernel_rfl)
theorem o_told_by {M : Md} (hb : Bl M) (d : DFT M "told_by" 27 ["way", "values"])  : PuOk M 1 "told_by" 2 M_told_by :=
  pu_of (N := ["way", "values", "value"]) (ps := ["way", "values"]) (T := T_told_by) (G := []) (A := A_told_by) (k := 0) hb d ⟨rfl, rfl, rfl, by decide +kernel, rfl, by decide +kernel, by decide +kernel⟩ (by decide) trivial (by kernel_rfl)
theorem o_lifted {M : Md} (hb : Bl M) (d : DFT M "lifted" 28 ["way", "tree", "values", "box"]) (e_parent_of : PuOk M 1 "parent_of" 2 M_parent_of) (e_told_by : PuOk M 1 "told_by" 2 M_told_by) (e_children_of : PuOk M 2 "children_of" 2 M_children_of) : MuOk M 3 "lifted" 4 2 M_lifted :=
  mu_of (N := ["way", "tree", "values", "box", "parent", "one"]) (ps := ["way", "tree", "values", "box"]) (T := T_lifted) (G := [("parent_of", .pu), ("told_by", .pu), ("children_of", .pu)]) (A := A_lifted) (k := 2) hb d ⟨rfl, rfl, rfl, by decide +kernel, rfl, by decide +kernel, by decide +kernel⟩ (j := 2) (by decide) (by decide) ⟨⟨_, _, rfl, e_parent_of.le (by decide)⟩, ⟨_, _, rfl, e_told_by.le (by decide)⟩, ⟨_, _, rfl, e_children_of.le (by decide)⟩, trivial⟩ (by kernel_rfl)
theorem o_spread_value {M : Md} (hb : Bl M) (d : DFT M "spread_value" 29 ["way", "tree", "values", "box", "value"]) (e_below : PuOk M 1 "below" 2 M_below) : MuOk M 2 "spread_value" 5 2 M_spread_value :=
  mu_of (N := ["way", "tree", "values", "box", "value", "one"]) (ps := ["way", "tree", "values", "box", "value"]) (T := T_spread_value) (G := [("below", .pu)]) (A := A_spread_value) (k := 1) hb d ⟨rfl, rfl, rfl, by decide +kernel, rfl, by decide +kernel, by decide +kernel⟩ (j := 2) (by decide) (by decide) ⟨⟨_, _, rfl, e_below.le (by decide)⟩, trivial⟩ (by kernel_rfl)
theorem o_clicked {M : Md} (hb : Bl M) (d : DFT M "clicked" 30 ["way", "tree", "state", "box"]) (e_spread_value : MuOk M 2 "spread_value" 5 2 M_spread_value) (e_lifted : MuOk M 3 "lifted" 4 2 M_lifted) (e_children_of : PuOk M 2 "children_of" 2 M_children_of) (e_parent_of : PuOk M 1 "parent_of" 2 M_parent_of) (e_below : PuOk M 1 "below" 2 M_below) : PuOk M 4 "clicked" 4 M_clicked :=
  pu_of (N := ["way", "tree", "state", "box", "values", "value", "sister", "one"]) (ps := ["way", "tree", "state", "box"]) (T := T_clicked) (G := [("spread_value", .mu 2), ("lifted", .mu 2), ("children_of", .pu), ("parent_of", .pu), ("below", .pu)]) (A := A_clicked) (k := 3) hb d ⟨rfl, rfl, rfl, by decide +kernel, rfl, by decide +kernel, by decide +kernel⟩ (by decide) ⟨⟨_, _, rfl, e_spread_value.le (by decide)⟩, ⟨_, _, rfl, e_lifted.le (by decide)⟩, ⟨_, _, rfl, e_children_of.le (by decide)⟩, ⟨_, _, rfl, e_parent_of.le (by decide)⟩, ⟨_, _, rfl, e_below.le (by decide)⟩, trivial⟩ (by kernel_rfl)
theorem o_turned {M : Md} (hb : Bl M) (d : DFT M "turned" 31 ["way", "tree", "state"]) (e_leaves_of : PuOk M 1 "leaves_of" 1 M_leaves_of) (e_told_by : PuOk M 1 "told_by" 2 M_told_by) (e_children_of : PuOk M 2 "children_of" 2 M_children_of) : PuOk M 3 "turned" 3 M_turned :=
  pu_of (N := ["way", "tree", "state", "values", "box", "one"]) (ps := ["way", "tree", "state"]) (T := T_turned) (G := [("leaves_of", .pu), ("told_by", .pu), ("children_of", .pu)]) (A := A_turned) (k := 2) hb d ⟨rfl, rfl, rfl, by decide +kernel, rfl, by decide +kernel, by decide +kernel⟩ (by decide) ⟨⟨_, _, rfl, e_leaves_of.le (by decide)⟩, ⟨_, _, rfl, e_told_by.le (by decide)⟩, ⟨_, _, rfl, e_children_of.le (by decide)⟩, trivial⟩ (by kernel_rfl)
theorem o_step {M : Md} (hb : Bl M) (d : DFT M "step" 32 ["way", "tree", "state", "deed"]) (e_clicked : PuOk M 4 "clicked" 4 M_clicked) (e_ticked : PuOk M 2 "ticked" 2 M_ticked) (e_turned : PuOk M 3 "turned" 3 M_turned) : PuOk M 5 "step" 4 M_step :=
  pu_of (N := ["way", "tree", "state", "deed", "after", "many"]) (ps := ["way", "tree", "state", "deed"]) (T := T_step) (G := [("clicked", .pu), ("ticked", .pu), ("turned", .pu)]) (A := A_step) (k := 4) hb d ⟨rfl, rfl, rfl, by decide +kernel, rfl, by decide +kernel, by decide +kernel⟩ (by decide) ⟨⟨_, _, rfl, e_clicked.le (by decide)⟩, ⟨_, _, rfl, e_ticked.le (by decide)⟩, ⟨_, _, rfl, e_turned.le (by decide)⟩, trivial⟩ (by kernel_rfl)
theorem o_is_word {M : Md} (hb : Bl M) (d : DFT M "is_word" 37 ["value", "words"])  : PuOk M 1 "is_word" 2 M_is_word :=
  pu_of (N := ["value", "words"]) (ps := ["value", "words"]) (T := T_is_word) (G := []) (A := A_is_word) (k := 0) hb d ⟨rfl, rfl, rfl, by decide +kernel, rfl, by decide +kernel, by decide +kernel⟩ (by decide) trivial (by kernel_rfl)
theorem o_is_way {M : Md} (hb : Bl M) (d : DFT M "is_way" 38 ["value"]) (e_is_int : PuOk M 1 "is_int" 3 M_is_int) (e_is_word : PuOk M 1 "is_word" 2 M_is_word) (e_DOWNS : CoOk M "DOWNS" (.tuple [(.str "all"), (.str "own")])) (e_HALVES : CoOk M "HALVES" (.tuple [(.str "tick"), (.str "clear")])) (e_UPS : CoOk M "UPS" (.tuple [(.str "half"), (.str "any"), (.str "every"), (.str "none")])) : PuOk M 2 "is_way" 1 M_is_way :=
  pu_of (N := ["value"]) (ps := ["value"]) (T := T_is_way) (G := [("is_int", .pu), ("is_word", .pu), ("DOWNS", .co (.tuple [(.str "all"), (.str "own")])), ("HALVES", .co (.tuple [(.str "tick"), (.str "clear")])), ("UPS", .co (.tuple [(.str "half"), (.str "any"), (.str "every"), (.str "none")]))]) (A := A_is_way) (k := 1) hb d ⟨rfl, rfl, rfl, by decide +kernel, rfl, by decide +kernel, by decide +kernel⟩ (by decide) ⟨⟨_, _, rfl, e_is_int.le (by decide)⟩, ⟨_, _, rfl, e_is_word.le (by decide)⟩, e_DOWNS, e_HALVES, e_UPS, trivial⟩ (by kernel_rfl)
theorem o_check_way {M : Md} (hb : Bl M) (d : DFT M "check_way" 39 ["value"]) (e_is_way : PuOk M 2 "is_way" 1 M_is_way) (e_BadWay : EcOk M "BadWay") : PuOk M 3 "check_way" 1 M_check_way :=
  pu_of (N := ["value"]) (ps := ["value"]) (T := T_check_way) (G := [("is_way", .pu), ("BadWay", .ec)]) (A := A_check_way) (k := 2) hb d ⟨rfl, rfl, rfl, by decide +kernel, rfl, by decide +kernel, by decide +kernel⟩ (by decide) ⟨⟨_, _, rfl, e_is_way.le (by decide)⟩, e_BadWay, trivial⟩ (by kernel_rfl)
theorem o_rows_of {M : Md} (hb : Bl M) (d : DFT M "rows_of" 41 ["way", "tree"]) (e_deeds_of : PuOk M 1 "deeds_of" 1 M_deeds_of) (e_opening : PuOk M 1 "opening" 1 M_opening) (e_step : PuOk M 5 "step" 4 M_step) : PuOk M 6 "rows_of" 2 M_rows_of :=
  pu_of (N := ["way", "tree", "found", "order", "here", "deeds", "deed", "after"]) (ps := ["way", "tree"]) (T := T_rows_of) (G := [("deeds_of", .pu), ("opening", .pu), ("step", .pu)]) (A := A_rows_of) (k := 5) hb d ⟨rfl, rfl, rfl, by decide +kernel, rfl, by decide +kernel, by decide +kernel⟩ (by decide) ⟨⟨_, _, rfl, e_deeds_of.le (by decide)⟩, ⟨_, _, rfl, e_opening.le (by decide)⟩, ⟨_, _, rfl, e_step.le (by decide)⟩, trivial⟩ (by kernel_rfl)
theorem o_count_states {M : Md} (hb : Bl M) (d : DFT M "count_states" 42 ["way", "tree"]) (e_check_way : PuOk M 3 "check_way" 1 M_check_way) (e_check_tree : PuOk M 3 "check_tree" 1 M_check_tree) (e_rows_of : PuOk M 6 "rows_of" 2 M_rows_of) : PuOk M 7 "count_states" 2 M_count_states :=
  pu_of (N := ["way", "tree"]) (ps := ["way", "tree"]) (T := T_count_states) (G := [("check_way", .pu), ("check_tree", .pu), ("rows_of", .pu)]) (A := A_count_states) (k := 6) hb d ⟨rfl, rfl, rfl, by decide +kernel, rfl, by decide +kernel, by decide +kernel⟩ (by decide) ⟨⟨_, _, rfl, e_check_way.le (by decide)⟩, ⟨_, _, rfl, e_check_tree.le (by decide)⟩, ⟨_, _, rfl, e_rows_of.le (by decide)⟩, trivial⟩ (by kernel_rfl)
theorem o_is_state {M : Md} (hb : Bl M) (d : DFT M "is_state" 43 ["value", "tree"]) (e_is_int : PuOk M 1 "is_int" 3 M_is_int) : PuOk M 2 "is_state" 2 M_is_state :=
  pu_of (N := ["value", "tree", "one"]) (ps := ["value", "tree"]) (T := T_is_state) (G := [("is_int", .pu)]) (A := A_is_state) (k := 1) hb d ⟨rfl, rfl, rfl, by decide +kernel, rfl, by decide +kernel, by decide +kernel⟩ (by decide) ⟨⟨_, _, rfl, e_is_int.le (by decide)⟩, trivial⟩ (by kernel_rfl)
theorem o_rows_to {M : Md} (hb : Bl M) (d : DFT M "rows_to" 44 ["way", "tree", "state"]) (e_check_way : PuOk M 3 "check_way" 1 M_check_way) (e_check_tree : PuOk M 3 "check_tree" 1 M_check_tree) (e_rows_of : PuOk M 6 "rows_of" 2 M_rows_of) (e_is_state : PuOk M 2 "is_state" 2 M_is_state) (e_BadViews : EcOk M "BadViews") (e_NotFound : EcOk M "NotFound") : PuOk M 7 "rows_to" 3 M_rows_to :=
  pu_of (N := ["way", "tree", "state", "found"]) (ps := ["way", "tree", "state"]) (T := T_rows_to) (G := [("check_way", .pu), ("check_tree", .pu), ("rows_of", .pu), ("is_state", .pu), ("BadViews", .ec), ("NotFound", .ec)]) (A := A_rows_to) (k := 6) hb d ⟨rfl, rfl, rfl, by decide +kernel, rfl, by decide +kernel, by decide +kernel⟩ (by decide) ⟨⟨_, _, rfl, e_check_way.le (by decide)⟩, ⟨_, _, rfl, e_check_tree.le (by decide)⟩, ⟨_, _, rfl, e_rows_of.le (by decide)⟩, ⟨_, _, rfl, e_is_state.le (by decide)⟩, e_BadViews, e_NotFound, trivial⟩ (by kernel_rfl)
theorem o_row_to {M : Md} (hb : Bl M) (d : DFT M "row_to" 45 ["way", "tree", "state"]) (e_rows_to : PuOk M 7 "rows_to" 3 M_rows_to) : PuOk M 8 "row_to" 3 M_row_to :=
  pu_of (N := ["way", "tree", "state"]) (ps := ["way", "tree", "state"]) (T := T_row_to) (G := [("rows_to", .pu)]) (A := A_row_to) (k := 7) hb d ⟨rfl, rfl, rfl, by decide +kernel, rfl, by decide +kernel, by decide +kernel⟩ (by decide) ⟨⟨_, _, rfl, e_rows_to.le (by decide)⟩, trivial⟩ (by kernel_rfl)
theorem o_idle_deeds {M : Md} (hb : Bl M) (d : DFT M "idle_deeds" 46 ["way", "tree", "state"]) (e_rows_to : PuOk M 7 "rows_to" 3 M_rows_to) (e_deeds_of : PuOk M 1 "deeds_of" 1 M_deeds_of) (e_step : PuOk M 5 "step" 4 M_step) : PuOk M 8 "idle_deeds" 3 M_idle_deeds :=
  pu_of (N := ["way", "tree", "state", "deed"]) (ps := ["way", "tree", "state"]) (T := T_idle_deeds) (G := [("rows_to", .pu), ("deeds_of", .pu), ("step", .pu)]) (A := A_idle_deeds) (k := 7) hb d ⟨rfl, rfl, rfl, by decide +kernel, rfl, by decide +kernel, by decide +kernel⟩ (by decide) ⟨⟨_, _, rfl, e_rows_to.le (by decide)⟩, ⟨_, _, rfl, e_deeds_of.le (by decide)⟩, ⟨_, _, rfl, e_step.le (by decide)⟩, trivial⟩ (by kernel_rfl)
theorem o_states_of {M : Md} (hb : Bl M) (d : DFT M "states_of" 48 ["way", "tree", "row"]) (e_opening : PuOk M 1 "opening" 1 M_opening) (e_step : PuOk M 5 "step" 4 M_step) : PuOk M 6 "states_of" 3 M_states_of :=
  pu_of (N := ["way", "tree", "row", "found", "deed"]) (ps := ["way", "tree", "row"]) (T := T_states_of) (G := [("opening", .pu), ("step", .pu)]) (A := A_states_of) (k := 5) hb d ⟨rfl, rfl, rfl, by decide +kernel, rfl, by decide +kernel, by decide +kernel⟩ (by decide) ⟨⟨_, _, rfl, e_opening.le (by decide)⟩, ⟨_, _, rfl, e_step.le (by decide)⟩, trivial⟩ (by kernel_rfl)
theorem o_states_along {M : Md} (hb : Bl M) (d : DFT M "states_along" 49 ["way", "tree", "row"]) (e_check_way : PuOk M 3 "check_way" 1 M_check_way) (e_check_tree : PuOk M 3 "check_tree" 1 M_check_tree) (e_check_row : PuOk M 4 "check_row" 2 M_check_row) (e_states_of : PuOk M 6 "states_of" 3 M_states_of) : PuOk M 7 "states_along" 3 M_states_along :=
  pu_of (N := ["way", "tree", "row"]) (ps := ["way", "tree", "row"]) (T := T_states_along) (G := [("check_way", .pu), ("check_tree", .pu), ("check_row", .pu), ("states_of", .pu)]) (A := A_states_along) (k := 6) hb d ⟨rfl, rfl, rfl, by decide +kernel, rfl, by decide +kernel, by decide +kernel⟩ (by decide) ⟨⟨_, _, rfl, e_check_way.le (by decide)⟩, ⟨_, _, rfl, e_check_tree.le (by decide)⟩, ⟨_, _, rfl, e_check_row.le (by decide)⟩, ⟨_, _, rfl, e_states_of.le (by decide)⟩, trivial⟩ (by kernel_rfl)
theorem o_state_after {M : Md} (hb : Bl M) (d : DFT M "state_after" 50 ["way", "tree", "row"]) (e_states_along : PuOk M 7 "states_along" 3 M_states_along) : PuOk M 8 "state_after" 3 M_state_after :=
  pu_of (N := ["way", "tree", "row"]) (ps := ["way", "tree", "row"]) (T := T_state_after) (G := [("states_along", .pu)]) (A := A_state_after) (k := 7) hb d ⟨rfl, rfl, rfl, by decide +kernel, rfl, by decide +kernel, by decide +kernel⟩ (by decide) ⟨⟨_, _, rfl, e_states_along.le (by decide)⟩, trivial⟩ (by kernel_rfl)
theorem o_law_pick {M : Md} (hb : Bl M) (d : DFT M "_law_pick" 54 ["draws", "choices"]) (e_law_draw : DwOk M 1 "_law_draw" 1 M_law_draw) : DwOk M 2 "_law_pick" 1 M_law_pick :=
  dw_of (N := ["draws", "choices"]) (ps := ["draws", "choices"]) (T := T_law_pick) (G := [("_law_draw", .dw)]) (A := A_law_pick) (k := 1) hb d ⟨rfl, rfl, rfl, by decide +kernel, rfl, by decide +kernel, by decide +kernel⟩ (n := 1) rfl (by decide) ⟨⟨_, _, rfl, e_law_draw.le (by decide)⟩, trivial⟩ (by kernel_rfl)
theorem o_law_words {M : Md} (hb : Bl M) (d : DFT M "_law_words" 56 [])  : PuOk M 1 "_law_words" 0 M_law_words :=
  pu_of (N := []) (ps := []) (T := T_law_words) (G := []) (A := A_law_words) (k := 0) hb d ⟨rfl, rfl, rfl, by decide +kernel, rfl, by decide +kernel, by decide +kernel⟩ (by decide) trivial (by kernel_rfl)
theorem o_law_deeds {M : Md} (hb : Bl M) (d : DFT M "_law_deeds" 57 ["tree"])  : PuOk M 1 "_law_deeds" 1 M_law_deeds :=
  pu_of (N := ["tree", "box"]) (ps := ["tree"]) (T := T_law_deeds) (G := []) (A := A_law_deeds) (k := 0) hb d ⟨rfl, rfl, rfl, by decide +kernel, rfl, by decide +kernel, by decide +kernel⟩ (by decide) trivial (by kernel_rfl)
theorem o_law_tree {M : Md} (hb : Bl M) (d : DFT M "_law_tree" 58 ["draws", "most"]) (e_law_draw : DwOk M 1 "_law_draw" 1 M_law_draw) : DwOk M 2 "_law_tree" 1 M_law_tree :=
  dw_of (N := ["draws", "most", "many", "tree"]) (ps := ["draws", "most"]) (T := T_law_tree) (G := [("_law_draw", .dw)]) (A := A_law_tree) (k := 1) hb d ⟨rfl, rfl, rfl, by decide +kernel, rfl, by decide +kernel, by decide +kernel⟩ (n := 1) rfl (by decide) ⟨⟨_, _, rfl, e_law_draw.le (by decide)⟩, trivial⟩ (by kernel_rfl)
theorem o_law_way {M : Md} (hb : Bl M) (d : DFT M "_law_way" 59 ["draws"]) (e_law_pick : DwOk M 2 "_law_pick" 1 M_law_pick) (e_law_words : PuOk M 1 "_law_words" 0 M_law_words) : DwOk M 3 "_law_way" 0 M_law_way :=
  dw_of (N := ["draws", "words_here"]) (ps := ["draws"]) (T := T_law_way) (G := [("_law_pick", .dw), ("_law_words", .pu)]) (A := A_law_way) (k := 2) hb d ⟨rfl, rfl, rfl, by decide +kernel, rfl, by decide +kernel, by decide +kernel⟩ (n := 0) rfl (by decide) ⟨⟨_, _, rfl, e_law_pick.le (by decide)⟩, ⟨_, _, rfl, e_law_words.le (by decide)⟩, trivial⟩ (by kernel_rfl)
theorem o_law_above {M : Md} (hb : Bl M) (d : DFT M "_law_above" 60 ["tree", "box"])  : PuOk M 1 "_law_above" 2 M_law_above :=
  pu_of (N := ["tree", "box", "found", "depth", "one"]) (ps := ["tree", "box"]) (T := T_law_above) (G := []) (A := A_law_above) (k := 0) hb d ⟨rfl, rfl, rfl, by decide +kernel, rfl, by decide +kernel, by decide +kernel⟩ (by decide) trivial (by kernel_rfl)
theorem o_law_children {M : Md} (hb : Bl M) (d : DFT M "_law_children" 61 ["tree", "box"]) (e_law_above : PuOk M 1 "_law_above" 2 M_law_above) : PuOk M 2 "_law_children" 2 M_law_children :=
  pu_of (N := ["tree", "box", "one"]) (ps := ["tree", "box"]) (T := T_law_children) (G := [("_law_above", .pu)]) (A := A_law_children) (k := 1) hb d ⟨rfl, rfl, rfl, by decide +kernel, rfl, by decide +kernel, by decide +kernel⟩ (by decide) ⟨⟨_, _, rfl, e_law_above.le (by decide)⟩, trivial⟩ (by kernel_rfl)
theorem o_law_leaves {M : Md} (hb : Bl M) (d : DFT M "_law_leaves" 62 ["tree"]) (e_law_children : PuOk M 2 "_law_children" 2 M_law_children) : PuOk M 3 "_law_leaves" 1 M_law_leaves :=
  pu_of (N := ["tree", "box"]) (ps := ["tree"]) (T := T_law_leaves) (G := [("_law_children", .pu)]) (A := A_law_leaves) (k := 2) hb d ⟨rfl, rfl, rfl, by decide +kernel, rfl, by decide +kernel, by decide +kernel⟩ (by decide) ⟨⟨_, _, rfl, e_law_children.le (by decide)⟩, trivial⟩ (by kernel_rfl)
theorem o_law_ticked {M : Md} (hb : Bl M) (d : DFT M "_law_ticked" 63 ["tree", "state"]) (e_law_leaves : PuOk M 3 "_law_leaves" 1 M_law_leaves) : PuOk M 4 "_law_ticked" 2 M_law_ticked :=
  pu_of (N := ["tree", "state", "box"]) (ps := ["tree", "state"]) (T := T_law_ticked) (G := [("_law_leaves", .pu)]) (A := A_law_ticked) (k := 3) hb d ⟨rfl, rfl, rfl, by decide +kernel, rfl, by decide +kernel, by decide +kernel⟩ (by decide) ⟨⟨_, _, rfl, e_law_leaves.le (by decide)⟩, trivial⟩ (by kernel_rfl)
theorem o_law_told {M : Md} (hb : Bl M) (d : DFT M "_law_told" 64 ["up", "tree", "state", "box"]) (e_law_children : PuOk M 2 "_law_children" 2 M_law_children) : PuOk M 3 "_law_told" 4 M_law_told :=
  pu_of (N := ["up", "tree", "state", "box", "values", "one"]) (ps := ["up", "tree", "state", "box"]) (T := T_law_told) (G := [("_law_children", .pu)]) (A := A_law_told) (k := 2) hb d ⟨rfl, rfl, rfl, by decide +kernel, rfl, by decide +kernel, by decide +kernel⟩ (by decide) ⟨⟨_, _, rfl, e_law_children.le (by decide)⟩, trivial⟩ (by kernel_rfl)
theorem o_law_click {M : Md} (hb : Bl M) (d : DFT M "_law_click" 65 ["way", "tree", "state", "box"]) (e_law_above : PuOk M 1 "_law_above" 2 M_law_above) (e_law_told : PuOk M 3 "_law_told" 4 M_law_told) : PuOk M 4 "_law_click" 4 M_law_click :=
  pu_of (N := ["way", "tree", "state", "box", "value", "own", "one", "gone_here", "sisters", "high", "after", "k"]) (ps := ["way", "tree", "state", "box"]) (T := T_law_click) (G := [("_law_above", .pu), ("_law_told", .pu)]) (A := A_law_click) (k := 3) hb d ⟨rfl, rfl, rfl, by decide +kernel, rfl, by decide +kernel, by decide +kernel⟩ (by decide) ⟨⟨_, _, rfl, e_law_above.le (by decide)⟩, ⟨_, _, rfl, e_law_told.le (by decide)⟩, trivial⟩ (by kernel_rfl)
theorem o_law_step {M : Md} (hb : Bl M) (d : DFT M "_law_step" 66 ["way", "tree", "state", "deed"]) (e_law_click : PuOk M 4 "_law_click" 4 M_law_click) (e_law_ticked : PuOk M 4 "_law_ticked" 2 M_law_ticked) (e_law_told : PuOk M 3 "_law_told" 4 M_law_told) (e_law_leaves : PuOk M 3 "_law_leaves" 1 M_law_leaves) : PuOk M 5 "_law_step" 4 M_law_step :=
  pu_of (N := ["way", "tree", "state", "deed", "after", "k", "box", "now", "ahead"]) (ps := ["way", "tree", "state", "deed"]) (T := T_law_step) (G := [("_law_click", .pu), ("_law_ticked", .pu), ("_law_told", .pu), ("_law_leaves", .pu)]) (A := A_law_step) (k := 4) hb d ⟨rfl, rfl, rfl, by decide +kernel, rfl, by decide +kernel, by decide +kernel⟩ (by decide) ⟨⟨_, _, rfl, e_law_click.le (by decide)⟩, ⟨_, _, rfl, e_law_ticked.le (by decide)⟩, ⟨_, _, rfl, e_law_told.le (by decide)⟩, ⟨_, _, rfl, e_law_leaves.le (by decide)⟩, trivial⟩ (by kernel_rfl)
theorem o_law_first {M : Md} (hb : Bl M) (d : DFT M "_law_first" 67 ["tree"])  : PuOk M 1 "_law_first" 1 M_law_first :=
  pu_of (N := ["tree"]) (ps := ["tree"]) (T := T_law_first) (G := []) (A := A_law_first) (k := 0) hb d ⟨rfl, rfl, rfl, by decide +kernel, rfl, by decide +kernel, by decide +kernel⟩ (by decide) trivial (by kernel_rfl)
theorem o_law_sets {M : Md} (hb : Bl M) (d : DFT M "_law_sets" 68 ["tree"]) (e_law_leaves : PuOk M 3 "_law_leaves" 1 M_law_leaves) : PuOk M 4 "_law_sets" 1 M_law_sets :=
  pu_of (N := ["tree", "found", "box", "one"]) (ps := ["tree"]) (T := T_law_sets) (G := [("_law_leaves", .pu)]) (A := A_law_sets) (k := 3) hb d ⟨rfl, rfl, rfl, by decide +kernel, rfl, by decide +kernel, by decide +kernel⟩ (by decide) ⟨⟨_, _, rfl, e_law_leaves.le (by decide)⟩, trivial⟩ (by kernel_rfl)
theorem o_law_reach {M : Md} (hb : Bl M) (d : DFT M "_law_reach" 69 ["way", "tree", "deeds", "begun"]) (e_law_step : PuOk M 5 "_law_step" 4 M_law_step) : PuOk M 6 "_law_reach" 4 M_law_reach :=
  pu_of (N := ["way", "tree", "deeds", "begun", "rows", "layer", "fresh", "state", "deed", "after"]) (ps := ["way", "tree", "deeds", "begun"]) (T := T_law_reach) (G := [("_law_step", .pu)]) (A := A_law_reach) (k := 5) hb d ⟨rfl, rfl, rfl, by decide +kernel, rfl, by decide +kernel, by decide +kernel⟩ (by decide) ⟨⟨_, _, rfl, e_law_step.le (by decide)⟩, trivial⟩ (by kernel_rfl)
theorem o_law_call {M : Md} {ad : Str → Addr} (hb : Bl M) (d : DFT M "_law_call" 70 ["kind", "way", "tree", "state"]) (R : ErrOk M.K M.mg ad) (er : ErOk M 8 ad) (e_row_to : PuOk M 8 "row_to" 3 M_row_to) (e_idle_deeds : PuOk M 8 "idle_deeds" 3 M_idle_deeds) : PuOk M 9 "_law_call" 4 M_law_call :=
  tr_of (N := ["kind", "way", "tree", "state", "found", "caught", "e"]) (ps := ["kind", "way", "tree", "state"]) (T := T_law_call) (G := [("row_to", .pu), ("idle_deeds", .pu)]) (E' := A_law_call) (k := 8) (i := 4) (j := 5) (l := 6) hb d ⟨rfl, rfl, rfl, by decide +kernel, rfl, by decide +kernel, by decide +kernel⟩ (by decide) ⟨⟨_, _, rfl, e_row_to.le (by decide)⟩, ⟨_, _, rfl, e_idle_deeds.le (by decide)⟩, trivial⟩ rfl rfl rfl (by decide) (by decide +kernel) (by decide +kernel) (by kernel_rfl) rfl (by kernel_rfl) R er
end Tk
set_option linter.all false
set_option Elab.async false
set_option maxRecDepth 100000
set_option maxHeartbeats 0
namespace Tk
open PySem PySem.Spec PyProof.Rows L2
theorem draw_ar : ∀ ds q, ds.length ≠ 1 → M_law_draw ds q = .bad := by
  intro ds q h
  rcases ds with _ | ⟨d, _ | ⟨e, ds⟩⟩
  · rfl
  · exact absurd rfl h
  · cases d <;> rfl
def fa : List He.Fa := ([.glo "is_int", .glo "is_tree", .glo "check_tree", .glo "parent_of", .glo "children_of", .glo "leaves_of", .glo "below", .glo "deeds_of", .glo "is_one", .glo "are_deeds", .glo "check_row", .glo "opening", .glo "ticked", .glo "told_by", .glo "lifted", .glo "spread_value", .glo "clicked", .glo "turned", .glo "step", .glo "is_word", .glo "is_way", .glo "check_way", .glo "rows_of", .glo "count_states", .glo "is_state"] : List He.Fa) ++ ([.glo "rows_to", .glo "row_to", .glo "idle_deeds", .glo "states_of", .glo "states_along", .glo "state_after", .glo "_law_start", .glo "_law_draw", .glo "_law_pick", .glo "_law_error", .glo "_law_words", .glo "_law_deeds", .glo "_law_tree", .glo "_law_way", .glo "_law_above", .glo "_law_children", .glo "_law_leaves", .glo "_law_ticked", .glo "_law_told", .glo "_law_click", .glo "_law_step", .glo "_law_first", .glo "_law_sets", .glo "_law_reach", .glo "_law_call"] : List He.Fa) ++ ([.glo "law", .glo "KINDS", .glo "DOWNS", .glo "HALVES", .glo "UPS", .glo "BadWay", .glo "BadDeeds", .glo "BadViews", .glo "BadNumber", .glo "NotFound", .exc "BadWay", .exc "BadDeeds", .exc "BadViews", .exc "BadNumber", .exc "NotFound", .int "MOST_BOXES" 5, .int "MOST_ROW" 40, .free "len", .free "list", .free "tuple", .free "max", .free "min", .free "sum", .free "all", .free "any"] : List He.Fa) ++ ([.free "isinstance", .free "int", .free "bool", .free "str", .free "range", .free "enumerate", .free "zip", .free "sorted", .free "set", .glo "BadWay", .glo "BadDeeds", .glo "BadViews", .glo "BadNumber", .glo "BadText", .glo "NotFound", .glo "TickError", .free "ValueError"] : List He.Fa)
def dd (x : Str) (i : Nat) : He.DefD := ⟨(x, none), x, x, defArgs (top i), defBody (top i), defScope (top i), [], []⟩
def fn : List He.DefD := ([dd "is_int" 8, dd "is_tree" 11, dd "check_tree" 12, dd "parent_of" 13, dd "children_of" 14, dd "leaves_of" 15, dd "below" 16, dd "deeds_of" 20, dd "is_one" 21, dd "are_deeds" 22, dd "check_row" 23, dd "opening" 25, dd "ticked" 26, dd "told_by" 27, dd "lifted" 28, dd "spread_value" 29, dd "clicked" 30, dd "turned" 31, dd "step" 32, dd "is_word" 37, dd "is_way" 38, dd "check_way" 39, dd "rows_of" 41, dd "count_states" 42, dd "is_state" 43] : List He.DefD) ++ ([dd "rows_to" 44, dd "row_to" 45, dd "idle_deeds" 46, dd "states_of" 48, dd "states_along" 49, dd "state_after" 50, dd "_law_start" 52, dd "_law_draw" 53, dd "_law_pick" 54, dd "_law_error" 55, dd "_law_words" 56, dd "_law_deeds" 57, dd "_law_tree" 58, dd "_law_way" 59, dd "_law_above" 60, dd "_law_children" 61, dd "_law_leaves" 62, dd "_law_ticked" 63, dd "_law_told" 64, dd "_law_click" 65, dd "_law_step" 66, dd "_law_first" 67, dd "_law_sets" 68, dd "_law_reach" 69, dd "_law_call" 70] : List He.DefD) ++ ([dd "law" 71] : List He.DefD)
def ex (K : PySem.W.Frag) : Bool := He.tupB K "KINDS" [.str "click", .str "all", .str "none", .str "turn"] && He.tupB K "DOWNS" [.str "all", .str "own"] && He.tupB K "HALVES" [.str "tick", .str "clear"] && He.tupB K "UPS" [.str "half", .str "any", .str "every", .str "none"] && errB K && true
abbrev R0 : PySem.W.OpenRow := PySem.W.OpenLaw.row PySem.Challenge.rw_treeticks_k02_whole_states
abbrev hk : PySem.W.Hook := He.hookX 4 fa fn [] [] ex
def ob (s : PySem.W.SharedT) : He.AlX := He.obsX 4 fa fn [] [] ex (HandSHeadRun.getT s)
theorem ob_eq (s : PySem.W.SharedT) : ob s = hk.obs s.abs := He.obsX_eq (HandSHeadRun.getT_eq s)
def loose : List Str := (["is_int", "is_tree", "check_tree", "parent_of", "children_of", "leaves_of", "below", "deeds_of", "is_one", "are_deeds", "check_row", "opening", "ticked", "told_by", "lifted", "spread_value", "clicked", "turned", "step", "is_word", "is_way", "check_way", "rows_of", "count_states", "is_state"] : List Str) ++ (["rows_to", "row_to", "idle_deeds", "states_of", "states_along", "state_after", "_law_start", "_law_draw", "_law_pick", "_law_error", "_law_words", "_law_deeds", "_law_tree", "_law_way", "_law_above", "_law_children", "_law_leaves", "_law_ticked", "_law_told", "_law_click", "_law_step", "_law_first", "_law_sets", "_law_reach", "_law_call"] : List Str) ++ (["MOST_BOXES", "KINDS", "MOST_ROW", "DOWNS", "HALVES", "UPS", "TickError", "BadWay", "BadDeeds", "BadViews", "BadNumber", "BadText", "NotFound"] : List Str)
theorem run (w : World) : HandSHeadRun.RunEq R0 (PySem.W.view R0.prog [71]) hk ob 6000 loose w := by
  intro os
  kernel_rfl
def LawTrue : Prop := ∀ ns : List Int, ns.length ≤ 63 → ∃ δ', exec T_law A_law (law0 12) (some (if ns = [] then [0] else ns, 0)) = .ok (.rt (.bool true)) δ'
theorem facts (LT : LawTrue) {P : Program} {w : World} {K : PySem.W.Frag} {h : Heap} {mg : Str → Option Value} {f : Addr} (X : K.In h) (G : h.Ns mainGlobals mg) (hfa : mg ("law" : Str) = some (.ref f)) (c0 : He.SaysX fa fn [] [] ex w h K) :
    ∃ fd : FuncData, (∀ (s : Shared) (v : Value), BindsTo s fd ⟨[v], []⟩ [("script", v)]) ∧ ∀ base : Heap, K.In base → base.Ns mainGlobals mg → FnOk P w K mg base (L2.CX P w) 10 f fd ["script"] (spLaw K) := by
  have c : He.SaysD fa fn K := c0.t.d
  have cm := c0.more
  obtain ⟨fdL, FL⟩ := c.def_ 50 (d := dd "law" 71) rfl
  have eL := hfa.symm.trans (He.glo_ok X G (c.fact 50 (f := .glo "law") rfl))
  cases eL
  have bL := FunD.bindsA (ps := ["script"]) FL fun _ _ _ _ _ _ us hl => match us, hl with | [_], _ => rfl
  refine ⟨fdL, fun s v => bL s [v] rfl, fun base _ _ => ?_⟩
  let M : Md := ⟨P, w, K, mg, base⟩
  have hb : Bl M := fun b h => by
    simp only [blts, List.mem_cons, List.not_mem_nil, or_false] at h
    rcases h with rfl | rfl | rfl | rfl | rfl | rfl | rfl | rfl | rfl | rfl | rfl | rfl | rfl | rfl | rfl | rfl | rfl
    · exact He.free_ok X G (c.fact 67 (f := .free "len") rfl)
    · exact He.free_ok X G (c.fact 68 (f := .free "list") rfl)
    · exact He.free_ok X G (c.fact 69 (f := .free "tuple") rfl)
    · exact He.free_ok X G (c.fact 70 (f := .free "max") rfl)
    · exact He.free_ok X G (c.fact 71 (f := .free "min") rfl)
    · exact He.free_ok X G (c.fact 72 (f := .free "sum") rfl)
    · exact He.free_ok X G (c.fact 73 (f := .free "all") rfl)
    · exact He.free_ok X G (c.fact 74 (f := .free "any") rfl)
    · exact He.free_ok X G (c.fact 75 (f := .free "isinstance") rfl)
    · exact He.free_ok X G (c.fact 76 (f := .free "int") rfl)
    · exact He.free_ok X G (c.fact 77 (f := .free "bool") rfl)
    · exact He.free_ok X G (c.fact 78 (f := .free "str") rfl)
    · exact He.free_ok X G (c.fact 79 (f := .free "range") rfl)
    · exact He.free_ok X G (c.fact 80 (f := .free "enumerate") rfl)
    · exact He.free_ok X G (c.fact 81 (f := .free "zip") rfl)
    · exact He.free_ok X G (c.fact 82 (f := .free "sorted") rfl)
    · exact He.free_ok X G (c.fact 83 (f := .free "set") rfl)
  simp only [ex, Bool.and_eq_true, and_true] at cm
  obtain ⟨⟨⟨⟨ct_KINDS, ct_DOWNS⟩, ct_HALVES⟩, ct_UPS⟩, c_err⟩ := cm
  have e_KINDS : CoOk M "KINDS" (.tuple [(.str "click"), (.str "all"), (.str "none"), (.str "turn")]) := co_tup X G (c.fact 51 (f := .glo "KINDS") rfl) ct_KINDS rfl
  have e_DOWNS : CoOk M "DOWNS" (.tuple [(.str "all"), (.str "own")]) := co_tup X G (c.fact 52 (f := .glo "DOWNS") rfl) ct_DOWNS rfl
  have e_HALVES : CoOk M "HALVES" (.tuple [(.str "tick"), (.str "clear")]) := co_tup X G (c.fact 53 (f := .glo "HALVES") rfl) ct_HALVES rfl
  have e_UPS : CoOk M "UPS" (.tuple [(.str "half"), (.str "any"), (.str "every"), (.str "none")]) := co_tup X G (c.fact 54 (f := .glo "UPS") rfl) ct_UPS rfl
  have e_MOST_BOXES : CoOk M "MOST_BOXES" (.int 5) := co_int X G (c.fact 65 (f := .int "MOST_BOXES" 5) rfl)
  have e_MOST_ROW : CoOk M "MOST_ROW" (.int 40) := co_int X G (c.fact 66 (f := .int "MOST_ROW" 40) rfl)
  have e_BadWay : EcOk M "BadWay" := ec_of X G (c.fact 55 (f := .glo "BadWay") rfl) (c.fact 60 (f := .exc "BadWay") rfl)
  have e_BadDeeds : EcOk M "BadDeeds" := ec_of X G (c.fact 56 (f := .glo "BadDeeds") rfl) (c.fact 61 (f := .exc "BadDeeds") rfl)
  have e_BadViews : EcOk M "BadViews" := ec_of X G (c.fact 57 (f := .glo "BadViews") rfl) (c.fact 62 (f := .exc "BadViews") rfl)
  have e_BadNumber : EcOk M "BadNumber" := ec_of X G (c.fact 58 (f := .glo "BadNumber") rfl) (c.fact 63 (f := .exc "BadNumber") rfl)
  have e_NotFound : EcOk M "NotFound" := ec_of X G (c.fact 59 (f := .glo "NotFound") rfl) (c.fact 64 (f := .exc "NotFound") rfl)
  have R : ErrOk M.K M.mg (He.ga M.K) := errOk_of (fun x hx => by
    simp only [List.mem_cons, List.not_mem_nil, or_false] at hx
    rcases hx with rfl | rfl | rfl | rfl | rfl | rfl | rfl
    · exact He.glo_ok X G (c.fact 84 (f := .glo "BadWay") rfl)
    · exact He.glo_ok X G (c.fact 85 (f := .glo "BadDeeds") rfl)
    · exact He.glo_ok X G (c.fact 86 (f := .glo "BadViews") rfl)
    · exact He.glo_ok X G (c.fact 87 (f := .glo "BadNumber") rfl)
    · exact He.glo_ok X G (c.fact 88 (f := .glo "BadText") rfl)
    · exact He.glo_ok X G (c.fact 89 (f := .glo "NotFound") rfl)
    · exact He.glo_ok X G (c.fact 90 (f := .glo "TickError") rfl)) c_err
  have mve : mg ("ValueError" : Str) = none := He.free_ok X G (c.fact 91 (f := .free "ValueError") rfl)
  have e_is_int : PuOk M 1 "is_int" 3 M_is_int := o_is_int hb (let ⟨fd, F⟩ := c.def_ 0 (d := dd "is_int" 8) rfl; ⟨_, fd, F, He.glo_ok X G (c.fact 0 (f := .glo "is_int") rfl), FunD.bindsN F fun _ _ _ _ _ _ us hl => match us, hl with | [_, _, _], _ => rfl⟩) 
  have e_is_tree : PuOk M 2 "is_tree" 1 M_is_tree := o_is_tree hb (let ⟨fd, F⟩ := c.def_ 1 (d := dd "is_tree" 11) rfl; ⟨_, fd, F, He.glo_ok X G (c.fact 1 (f := .glo "is_tree") rfl), FunD.bindsN F fun _ _ _ _ _ _ us hl => match us, hl with | [_], _ => rfl⟩) e_MOST_BOXES e_is_int
  have e_check_tree : PuOk M 3 "check_tree" 1 M_check_tree := o_check_tree hb (let ⟨fd, F⟩ := c.def_ 2 (d := dd "check_tree" 12) rfl; ⟨_, fd, F, He.glo_ok X G (c.fact 2 (f := .glo "check_tree") rfl), FunD.bindsN F fun _ _ _ _ _ _ us hl => match us, hl with | [_], _ => rfl⟩) e_is_tree e_BadNumber
  have e_parent_of : PuOk M 1 "parent_of" 2 M_parent_of := o_parent_of hb (let ⟨fd, F⟩ := c.def_ 3 (d := dd "parent_of" 13) rfl; ⟨_, fd, F, He.glo_ok X G (c.fact 3 (f := .glo "parent_of") rfl), FunD.bindsN F fun _ _ _ _ _ _ us hl => match us, hl with | [_, _], _ => rfl⟩) 
  have e_children_of : PuOk M 2 "children_of" 2 M_children_of := o_children_of hb (let ⟨fd, F⟩ := c.def_ 4 (d := dd "children_of" 14) rfl; ⟨_, fd, F, He.glo_ok X G (c.fact 4 (f := .glo "children_of") rfl), FunD.bindsN F fun _ _ _ _ _ _ us hl => match us, hl with | [_, _], _ => rfl⟩) e_parent_of
  have e_leaves_of : PuOk M 1 "leaves_of" 1 M_leaves_of := o_leaves_of hb (let ⟨fd, F⟩ := c.def_ 5 (d := dd "leaves_of" 15) rfl; ⟨_, fd, F, He.glo_ok X G (c.fact 5 (f := .glo "leaves_of") rfl), FunD.bindsN F fun _ _ _ _ _ _ us hl => match us, hl with | [_], _ => rfl⟩) 
  have e_below : PuOk M 1 "below" 2 M_below := o_below hb (let ⟨fd, F⟩ := c.def_ 6 (d := dd "below" 16) rfl; ⟨_, fd, F, He.glo_ok X G (c.fact 6 (f := .glo "below") rfl), FunD.bindsN F fun _ _ _ _ _ _ us hl => match us, hl with | [_, _], _ => rfl⟩) 
  have e_deeds_of : PuOk M 1 "deeds_of" 1 M_deeds_of := o_deeds_of hb (let ⟨fd, F⟩ := c.def_ 7 (d := dd "deeds_of" 20) rfl; ⟨_, fd, F, He.glo_ok X G (c.fact 7 (f := .glo "deeds_of") rfl), FunD.bindsN F fun _ _ _ _ _ _ us hl => match us, hl with | [_], _ => rfl⟩) e_KINDS
  have e_is_one : PuOk M 2 "is_one" 2 M_is_one := o_is_one hb (let ⟨fd, F⟩ := c.def_ 8 (d := dd "is_one" 21) rfl; ⟨_, fd, F, He.glo_ok X G (c.fact 8 (f := .glo "is_one") rfl), FunD.bindsN F fun _ _ _ _ _ _ us hl => match us, hl with | [_, _], _ => rfl⟩) e_KINDS e_is_int
  have e_are_deeds : PuOk M 3 "are_deeds" 2 M_are_deeds := o_are_deeds hb (let ⟨fd, F⟩ := c.def_ 9 (d := dd "are_deeds" 22) rfl; ⟨_, fd, F, He.glo_ok X G (c.fact 9 (f := .glo "are_deeds") rfl), FunD.bindsN F fun _ _ _ _ _ _ us hl => match us, hl with | [_, _], _ => rfl⟩) e_MOST_ROW e_is_one
  have e_check_row : PuOk M 4 "check_row" 2 M_check_row := o_check_row hb (let ⟨fd, F⟩ := c.def_ 10 (d := dd "check_row" 23) rfl; ⟨_, fd, F, He.glo_ok X G (c.fact 10 (f := .glo "check_row") rfl), FunD.bindsN F fun _ _ _ _ _ _ us hl => match us, hl with | [_, _], _ => rfl⟩) e_are_deeds e_BadDeeds
  have e_opening : PuOk M 1 "opening" 1 M_opening := o_opening hb (let ⟨fd, F⟩ := c.def_ 11 (d := dd "opening" 25) rfl; ⟨_, fd, F, He.glo_ok X G (c.fact 11 (f := .glo "opening") rfl), FunD.bindsN F fun _ _ _ _ _ _ us hl => match us, hl with | [_], _ => rfl⟩) 
  have e_ticked : PuOk M 2 "ticked" 2 M_ticked := o_ticked hb (let ⟨fd, F⟩ := c.def_ 12 (d := dd "ticked" 26) rfl; ⟨_, fd, F, He.glo_ok X G (c.fact 12 (f := .glo "ticked") rfl), FunD.bindsN F fun _ _ _ _ _ _ us hl => match us, hl with | [_, _], _ => rfl⟩) e_leaves_of
  have e_told_by : PuOk M 1 "told_by" 2 M_told_by := o_told_by hb (let ⟨fd, F⟩ := c.def_ 13 (d := dd "told_by" 27) rfl; ⟨_, fd, F, He.glo_ok X G (c.fact 13 (f := .glo "told_by") rfl), FunD.bindsN F fun _ _ _ _ _ _ us hl => match us, hl with | [_, _], _ => rfl⟩) 
  have e_lifted : MuOk M 3 "lifted" 4 2 M_lifted := o_lifted hb (let ⟨fd, F⟩ := c.def_ 14 (d := dd "lifted" 28) rfl; ⟨_, fd, F, He.glo_ok X G (c.fact 14 (f := .glo "lifted") rfl), FunD.bindsN F fun _ _ _ _ _ _ us hl => match us, hl with | [_, _, _, _], _ => rfl⟩) e_parent_of e_told_by e_children_of
  have e_spread_value : MuOk M 2 "spread_value" 5 2 M_spread_value := o_spread_value hb (let ⟨fd, F⟩ := c.def_ 15 (d := dd "spread_value" 29) rfl; ⟨_, fd, F, He.glo_ok X G (c.fact 15 (f := .glo "spread_value") rfl), FunD.bindsN F fun _ _ _ _ _ _ us hl => match us, hl with | [_, _, _, _, _], _ => rfl⟩) e_below
  have e_clicked : PuOk M 4 "clicked" 4 M_clicked := o_clicked hb (let ⟨fd, F⟩ := c.def_ 16 (d := dd "clicked" 30) rfl; ⟨_, fd, F, He.glo_ok X G (c.fact 16 (f := .glo "clicked") rfl), FunD.bindsN F fun _ _ _ _ _ _ us hl => match us, hl with | [_, _, _, _], _ => rfl⟩) e_spread_value e_lifted e_children_of e_parent_of e_below
  have e_turned : PuOk M 3 "turned" 3 M_turned := o_turned hb (let ⟨fd, F⟩ := c.def_ 17 (d := dd "turned" 31) rfl; ⟨_, fd, F, He.glo_ok X G (c.fact 17 (f := .glo "turned") rfl), FunD.bindsN F fun _ _ _ _ _ _ us hl => match us, hl with | [_, _, _], _ => rfl⟩) e_leaves_of e_told_by e_children_of
  have e_step : PuOk M 5 "step" 4 M_step := o_step hb (let ⟨fd, F⟩ := c.def_ 18 (d := dd "step" 32) rfl; ⟨_, fd, F, He.glo_ok X G (c.fact 18 (f := .glo "step") rfl), FunD.bindsN F fun _ _ _ _ _ _ us hl => match us, hl with | [_, _, _, _], _ => rfl⟩) e_clicked e_ticked e_turned
  have e_is_word : PuOk M 1 "is_word" 2 M_is_word := o_is_word hb (let ⟨fd, F⟩ := c.def_ 19 (d := dd "is_word" 37) rfl; ⟨_, fd, F, He.glo_ok X G (c.fact 19 (f := .glo "is_word") rfl), FunD.bindsN F fun _ _ _ _ _ _ us hl => match us, hl with | [_, _], _ => rfl⟩) 
  have e_is_way : PuOk M 2 "is_way" 1 M_is_way := o_is_way hb (let ⟨fd, F⟩ := c.def_ 20 (d := dd "is_way" 38) rfl; ⟨_, fd, F, He.glo_ok X G (c.fact 20 (f := .glo "is_way") rfl), FunD.bindsN F fun _ _ _ _ _ _ us hl => match us, hl with | [_], _ => rfl⟩) e_is_int e_is_word e_DOWNS e_HALVES e_UPS
  have e_check_way : PuOk M 3 "check_way" 1 M_check_way := o_check_way hb (let ⟨fd, F⟩ := c.def_ 21 (d := dd "check_way" 39) rfl; ⟨_, fd, F, He.glo_ok X G (c.fact 21 (f := .glo "check_way") rfl), FunD.bindsN F fun _ _ _ _ _ _ us hl => match us, hl with | [_], _ => rfl⟩) e_is_way e_BadWay
  have e_rows_of : PuOk M 6 "rows_of" 2 M_rows_of := o_rows_of hb (let ⟨fd, F⟩ := c.def_ 22 (d := dd "rows_of" 41) rfl; ⟨_, fd, F, He.glo_ok X G (c.fact 22 (f := .glo "rows_of") rfl), FunD.bindsN F fun _ _ _ _ _ _ us hl => match us, hl with | [_, _], _ => rfl⟩) e_deeds_of e_opening e_step
  have e_count_states : PuOk M 7 "count_states" 2 M_count_states := o_count_states hb (let ⟨fd, F⟩ := c.def_ 23 (d := dd "count_states" 42) rfl; ⟨_, fd, F, He.glo_ok X G (c.fact 23 (f := .glo "count_states") rfl), FunD.bindsN F fun _ _ _ _ _ _ us hl => match us, hl with | [_, _], _ => rfl⟩) e_check_way e_check_tree e_rows_of
  have e_is_state : PuOk M 2 "is_state" 2 M_is_state := o_is_state hb (let ⟨fd, F⟩ := c.def_ 24 (d := dd "is_state" 43) rfl; ⟨_, fd, F, He.glo_ok X G (c.fact 24 (f := .glo "is_state") rfl), FunD.bindsN F fun _ _ _ _ _ _ us hl => match us, hl with | [_, _], _ => rfl⟩) e_is_int
  have e_rows_to : PuOk M 7 "rows_to" 3 M_rows_to := o_rows_to hb (let ⟨fd, F⟩ := c.def_ 25 (d := dd "rows_to" 44) rfl; ⟨_, fd, F, He.glo_ok X G (c.fact 25 (f := .glo "rows_to") rfl), FunD.bindsN F fun _ _ _ _ _ _ us hl => match us, hl with | [_, _, _], _ => rfl⟩) e_check_way e_check_tree e_rows_of e_is_state e_BadViews e_NotFound
  have e_row_to : PuOk M 8 "row_to" 3 M_row_to := o_row_to hb (let ⟨fd, F⟩ := c.def_ 26 (d := dd "row_to" 45) rfl; ⟨_, fd, F, He.glo_ok X G (c.fact 26 (f := .glo "row_to") rfl), FunD.bindsN F fun _ _ _ _ _ _ us hl => match us, hl with | [_, _, _], _ => rfl⟩) e_rows_to
  have e_idle_deeds : PuOk M 8 "idle_deeds" 3 M_idle_deeds := o_idle_deeds hb (let ⟨fd, F⟩ := c.def_ 27 (d := dd "idle_deeds" 46) rfl; ⟨_, fd, F, He.glo_ok X G (c.fact 27 (f := .glo "idle_deeds") rfl), FunD.bindsN F fun _ _ _ _ _ _ us hl => match us, hl with | [_, _, _], _ => rfl⟩) e_rows_to e_deeds_of e_step
  have e_states_of : PuOk M 6 "states_of" 3 M_states_of := o_states_of hb (let ⟨fd, F⟩ := c.def_ 28 (d := dd "states_of" 48) rfl; ⟨_, fd, F, He.glo_ok X G (c.fact 28 (f := .glo "states_of") rfl), FunD.bindsN F fun _ _ _ _ _ _ us hl => match us, hl with | [_, _, _], _ => rfl⟩) e_opening e_step
  have e_states_along : PuOk M 7 "states_along" 3 M_states_along := o_states_along hb (let ⟨fd, F⟩ := c.def_ 29 (d := dd "states_along" 49) rfl; ⟨_, fd, F, He.glo_ok X G (c.fact 29 (f := .glo "states_along") rfl), FunD.bindsN F fun _ _ _ _ _ _ us hl => match us, hl with | [_, _, _], _ => rfl⟩) e_check_way e_check_tree e_check_row e_states_of
  have e_state_after : PuOk M 8 "state_after" 3 M_state_after := o_state_after hb (let ⟨fd, F⟩ := c.def_ 30 (d := dd "state_after" 50) rfl; ⟨_, fd, F, He.glo_ok X G (c.fact 30 (f := .glo "state_after") rfl), FunD.bindsN F fun _ _ _ _ _ _ us hl => match us, hl with | [_, _, _], _ => rfl⟩) e_states_along
  obtain ⟨fS, fdS, FS, mS, bS⟩ : DFT M "_law_start" 52 ["script"] := let ⟨fd, F⟩ := c.def_ 31 (d := dd "_law_start" 52) rfl; ⟨_, fd, F, He.glo_ok X G (c.fact 31 (f := .glo "_law_start") rfl), FunD.bindsN F fun _ _ _ _ _ _ us hl => match us, hl with | [_], _ => rfl⟩
  have okS : FnOk P w K mg base (L2.CX P w) 1 fS fdS ["script"] (spS K) := ok_start FS ⟨rfl, rfl, rfl, by decide +kernel, rfl, by decide +kernel, by decide +kernel⟩ (by decide +kernel) (by decide +kernel) (hb _ (by decide +kernel))
  have e_law_draw : DwOk M 1 "_law_draw" 1 M_law_draw := by
    obtain ⟨f, fd, F, m, b⟩ : DFT M "_law_draw" 53 ["draws", "limit"] := let ⟨fd, F⟩ := c.def_ 32 (d := dd "_law_draw" 53) rfl; ⟨_, fd, F, He.glo_ok X G (c.fact 32 (f := .glo "_law_draw") rfl), FunD.bindsN F fun _ _ _ _ _ _ us hl => match us, hl with | [_, _], _ => rfl⟩
    exact ⟨f, fd, _, ok_draw F ⟨rfl, rfl, rfl, by decide +kernel, rfl, by decide +kernel, by decide +kernel⟩ (by decide +kernel) (by decide +kernel) (hb _ (by decide +kernel)), m, F.kp, b, rfl, draw_ar⟩
  have e_law_pick : DwOk M 2 "_law_pick" 1 M_law_pick := o_law_pick hb (let ⟨fd, F⟩ := c.def_ 33 (d := dd "_law_pick" 54) rfl; ⟨_, fd, F, He.glo_ok X G (c.fact 33 (f := .glo "_law_pick") rfl), FunD.bindsN F fun _ _ _ _ _ _ us hl => match us, hl with | [_, _], _ => rfl⟩) e_law_draw
  have er : ErOk M 1 (He.ga M.K) := by
    obtain ⟨f, fd, F, m, b⟩ : DFT M "_law_error" 55 ["caught"] := let ⟨fd, F⟩ := c.def_ 34 (d := dd "_law_error" 55) rfl; ⟨_, fd, F, He.glo_ok X G (c.fact 34 (f := .glo "_law_error") rfl), FunD.bindsN F fun _ _ _ _ _ _ us hl => match us, hl with | [_], _ => rfl⟩
    exact ⟨f, fd, ok_err F ⟨rfl, rfl, rfl, by decide +kernel, rfl, by decide +kernel, by decide +kernel⟩ (by decide +kernel) (by decide +kernel) (hb _ (by decide +kernel)) mve rfl rfl R, m, F.kp, b⟩
  have e_law_words : PuOk M 1 "_law_words" 0 M_law_words := o_law_words hb (let ⟨fd, F⟩ := c.def_ 35 (d := dd "_law_words" 56) rfl; ⟨_, fd, F, He.glo_ok X G (c.fact 35 (f := .glo "_law_words") rfl), FunD.bindsN F fun _ _ _ _ _ _ us hl => match us, hl with | [], _ => rfl⟩) 
  have e_law_deeds : PuOk M 1 "_law_deeds" 1 M_law_deeds := o_law_deeds hb (let ⟨fd, F⟩ := c.def_ 36 (d := dd "_law_deeds" 57) rfl; ⟨_, fd, F, He.glo_ok X G (c.fact 36 (f := .glo "_law_deeds") rfl), FunD.bindsN F fun _ _ _ _ _ _ us hl => match us, hl with | [_], _ => rfl⟩) 
  have e_law_tree : DwOk M 2 "_law_tree" 1 M_law_tree := o_law_tree hb (let ⟨fd, F⟩ := c.def_ 37 (d := dd "_law_tree" 58) rfl; ⟨_, fd, F, He.glo_ok X G (c.fact 37 (f := .glo "_law_tree") rfl), FunD.bindsN F fun _ _ _ _ _ _ us hl => match us, hl with | [_, _], _ => rfl⟩) e_law_draw
  have e_law_way : DwOk M 3 "_law_way" 0 M_law_way := o_law_way hb (let ⟨fd, F⟩ := c.def_ 38 (d := dd "_law_way" 59) rfl; ⟨_, fd, F, He.glo_ok X G (c.fact 38 (f := .glo "_law_way") rfl), FunD.bindsN F fun _ _ _ _ _ _ us hl => match us, hl with | [_], _ => rfl⟩) e_law_pick e_law_words
  have e_law_above : PuOk M 1 "_law_above" 2 M_law_above := o_law_above hb (let ⟨fd, F⟩ := c.def_ 39 (d := dd "_law_above" 60) rfl; ⟨_, fd, F, He.glo_ok X G (c.fact 39 (f := .glo "_law_above") rfl), FunD.bindsN F fun _ _ _ _ _ _ us hl => match us, hl with | [_, _], _ => rfl⟩) 
  have e_law_children : PuOk M 2 "_law_children" 2 M_law_children := o_law_children hb (let ⟨fd, F⟩ := c.def_ 40 (d := dd "_law_children" 61) rfl; ⟨_, fd, F, He.glo_ok X G (c.fact 40 (f := .glo "_law_children") rfl), FunD.bindsN F fun _ _ _ _ _ _ us hl => match us, hl with | [_, _], _ => rfl⟩) e_law_above
  have e_law_leaves : PuOk M 3 "_law_leaves" 1 M_law_leaves := o_law_leaves hb (let ⟨fd, F⟩ := c.def_ 41 (d := dd "_law_leaves" 62) rfl; ⟨_, fd, F, He.glo_ok X G (c.fact 41 (f := .glo "_law_leaves") rfl), FunD.bindsN F fun _ _ _ _ _ _ us hl => match us, hl with | [_], _ => rfl⟩) e_law_children
  have e_law_ticked : PuOk M 4 "_law_ticked" 2 M_law_ticked := o_law_ticked hb (let ⟨fd, F⟩ := c.def_ 42 (d := dd "_law_ticked" 63) rfl; ⟨_, fd, F, He.glo_ok X G (c.fact 42 (f := .glo "_law_ticked") rfl), FunD.bindsN F fun _ _ _ _ _ _ us hl => match us, hl with | [_, _], _ => rfl⟩) e_law_leaves
  have e_law_told : PuOk M 3 "_law_told" 4 M_law_told := o_law_told hb (let ⟨fd, F⟩ := c.def_ 43 (d := dd "_law_told" 64) rfl; ⟨_, fd, F, He.glo_ok X G (c.fact 43 (f := .glo "_law_told") rfl), FunD.bindsN F fun _ _ _ _ _ _ us hl => match us, hl with | [_, _, _, _], _ => rfl⟩) e_law_children
  have e_law_click : PuOk M 4 "_law_click" 4 M_law_click := o_law_click hb (let ⟨fd, F⟩ := c.def_ 44 (d := dd "_law_click" 65) rfl; ⟨_, fd, F, He.glo_ok X G (c.fact 44 (f := .glo "_law_click") rfl), FunD.bindsN F fun _ _ _ _ _ _ us hl => match us, hl with | [_, _, _, _], _ => rfl⟩) e_law_above e_law_told
  have e_law_step : PuOk M 5 "_law_step" 4 M_law_step := o_law_step hb (let ⟨fd, F⟩ := c.def_ 45 (d := dd "_law_step" 66) rfl; ⟨_, fd, F, He.glo_ok X G (c.fact 45 (f := .glo "_law_step") rfl), FunD.bindsN F fun _ _ _ _ _ _ us hl => match us, hl with | [_, _, _, _], _ => rfl⟩) e_law_click e_law_ticked e_law_told e_law_leaves
  have e_law_first : PuOk M 1 "_law_first" 1 M_law_first := o_law_first hb (let ⟨fd, F⟩ := c.def_ 46 (d := dd "_law_first" 67) rfl; ⟨_, fd, F, He.glo_ok X G (c.fact 46 (f := .glo "_law_first") rfl), FunD.bindsN F fun _ _ _ _ _ _ us hl => match us, hl with | [_], _ => rfl⟩) 
  have e_law_sets : PuOk M 4 "_law_sets" 1 M_law_sets := o_law_sets hb (let ⟨fd, F⟩ := c.def_ 47 (d := dd "_law_sets" 68) rfl; ⟨_, fd, F, He.glo_ok X G (c.fact 47 (f := .glo "_law_sets") rfl), FunD.bindsN F fun _ _ _ _ _ _ us hl => match us, hl with | [_], _ => rfl⟩) e_law_leaves
  have e_law_reach : PuOk M 6 "_law_reach" 4 M_law_reach := o_law_reach hb (let ⟨fd, F⟩ := c.def_ 48 (d := dd "_law_reach" 69) rfl; ⟨_, fd, F, He.glo_ok X G (c.fact 48 (f := .glo "_law_reach") rfl), FunD.bindsN F fun _ _ _ _ _ _ us hl => match us, hl with | [_, _, _, _], _ => rfl⟩) e_law_step
  have e_law_call : PuOk M 9 "_law_call" 4 M_law_call := o_law_call hb (let ⟨fd, F⟩ := c.def_ 49 (d := dd "_law_call" 70) rfl; ⟨_, fd, F, He.glo_ok X G (c.fact 49 (f := .glo "_law_call") rfl), FunD.bindsN F fun _ _ _ _ _ _ us hl => match us, hl with | [_, _, _, _], _ => rfl⟩) R (let ⟨f, fd, a, b⟩ := er; ⟨f, fd, a.mono (by decide), b⟩) e_row_to e_idle_deeds
  exact ok_law (N := ["script", "draws", "way", "tree", "deeds", "rows", "turn", "state", "deed", "strange", "box", "due", "kind", "plain"]) (k := 9) (G := [("_law_deeds", .pu), ("_law_reach", .pu), ("_law_way", .dw), ("_law_tree", .dw), ("_law_first", .pu), ("count_states", .pu), ("_law_pick", .dw), ("_law_call", .pu), ("_law_draw", .dw), ("state_after", .pu), ("_law_sets", .pu), ("_law_step", .pu)]) (F := T_law) (A := A_law) (n := 60) (tabOk (M := M) hb ⟨⟨_, _, rfl, e_law_deeds.le (by decide)⟩, ⟨_, _, rfl, e_law_reach.le (by decide)⟩, ⟨_, _, rfl, e_law_way.le (by decide)⟩, ⟨_, _, rfl, e_law_tree.le (by decide)⟩, ⟨_, _, rfl, e_law_first.le (by decide)⟩, ⟨_, _, rfl, e_count_states.le (by decide)⟩, ⟨_, _, rfl, e_law_pick.le (by decide)⟩, ⟨_, _, rfl, e_law_call.le (by decide)⟩, ⟨_, _, rfl, e_law_draw.le (by decide)⟩, ⟨_, _, rfl, e_state_after.le (by decide)⟩, ⟨_, _, rfl, e_law_sets.le (by decide)⟩, ⟨_, _, rfl, e_law_step.le (by decide)⟩, trivial⟩) FL ⟨rfl, rfl, rfl, by decide +kernel, rfl, by decide +kernel, by decide +kernel⟩ rfl rfl (by first | exact .inl (by decide +kernel) | exact .inr (by decide +kernel) | exact .inr (.inl (by decide +kernel))) (by first | exact .inl (by decide +kernel) | exact .inr (by decide +kernel)) (by decide +kernel) (okS.mono (by decide)) mS FS.kp bS (by decide) (by kernel_rfl) LT
end Tk
open PySem PySem.W PySem.Calls PyProof.Rows
theorem PySem.Challenge.cw_treeticks_k02_whole_states_holds_of (LT : Tk.LawTrue) : PySem.Challenge.rw_treeticks_k02_whole_states.Holds := by
  w_on; o_law
  refine HandSHeadRun.head_any (r := OpenLaw.row PySem.Challenge.rw_treeticks_k02_whole_states) (q := view (OpenLaw.row PySem.Challenge.rw_treeticks_k02_whole_states).prog [71]) (H := Tk.hk) (ob := Tk.ob) (M := 6000) (loose := Tk.loose) (d := HandSHeadRun.topDef (OpenLaw.row PySem.Challenge.rw_treeticks_k02_whole_states).prog 71) (kwd := []) Tk.ob_eq
    (by kernel_rfl) (fun s => by kernel_rfl) Tk.run (by kernel_rfl) (by kernel_rfl) (by kernel_rfl) (by rfl) (by first | assumption | decide +kernel) (by decide +kernel) ⟨rfl, rfl, rfl, rfl, rfl, by decide +kernel⟩ ?hw ?hc
  case hw => w_witness2
  case hc =>
    refine L2.walk_ofE (l := PySem.Challenge.rw_treeticks_k02_whole_states) (n := 63) (k := 10) (x := "script") (CX := Tk.CXA (PySem.Challenge.rw_treeticks_k02_whole_states).prog) rfl (by decide) (by kernel_rfl) ⟨rfl, by decide, by decide⟩ ?F (fun _ _ _ _ z => by obtain ⟨_, _, _, _, _, _, _, _, _, _, _, _, _, z⟩ := z; exact z)
    intro w mg fa h Y G hmg0
    obtain ⟨K, KX, c⟩ := Y
    have hmg : mg ("law" : PySem.Str) = some (.ref fa) := by
      have e : (HandSHeadRun.topDef (OpenLaw.row PySem.Challenge.rw_treeticks_k02_whole_states).prog 71).name = ("law" : PySem.Str) := by kernel_rfl
      rw [← e]
      exact hmg0
    obtain ⟨fd, hb, hF⟩ := Tk.facts LT (P := (PySem.Challenge.rw_treeticks_k02_whole_states).prog) (w := w) KX G hmg c
    exact ⟨K, fd, Tk.spLaw K, KX, hb, fun H a ns hl _ hS => ⟨a, ns, rfl, hS, hl, fun _ => rfl⟩, fun base h1 h2 => Tk.cxa (hF base h1 h2)⟩
namespace Tk
theorem lawTrue : LawTrue := fun ns _ => k02_true ns
end Tk
theorem PySem.Challenge.cw_treeticks_k02_whole_states_holds : PySem.Challenge.rw_treeticks_k02_whole_states.Holds := by
  exact PySem.Challenge.cw_treeticks_k02_whole_states_holds_of Tk.lawTrue
