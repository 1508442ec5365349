import PyProof.Rows.All
import Wide.All
import OpenK.AllK
import Wide.FinOn
import PySem.Challenge.RW_sentjustonce_k33_whole_sums_and_tables
import HandS.ForMost
import HandS.ForExc
import HandS.Lambda
import HandS.ExcInit
import HandS.TryMany
import HandS.ExcField
import HandS.Deep
import HandS.TupAny
import HandS.Flow
import HandS.IsInst
import HandS.NoneIn
import HandS.SetFor
import HandS.Small
import HandS.HeadHook2
import HandS.Iter
import KE.GoesEnum
import HandS.Zip
import HandS.ListItems
import HandS.Conv
import HandS.Defaults
import HandS.Style
import HandS.Head2
import HandS.HeadHook4
import HandS.HeadWalk
set_option Elab.async false
set_option linter.all false
set_option maxRecDepth 100000
set_option maxHeartbeats 4000000
/-! AH1: a small language for the program's text, a heap of its own, a function that runs it. -/
namespace AH
open PySem L2

/-- a value -/
inductive AV where
  | non | bl (b : Bool) | int (i : Int) | str (x : Str) | ref (n : Nat)
  deriving DecidableEq, Inhabited
/-- what stands in the heap -/
inductive AO where
  | lst (xs : List AV) | tup (xs : List AV) | dct (kvs : List (Key × AV)) | dctL (kvs : List (Key × AV)) | scr (xs : List Int)
/-- a map from numbers -/
inductive Tr where
  | e | lf (xs : List (Nat × AO)) | nd (l r : Tr)
def lookN (k : Nat) : List (Nat × AO) → Option AO
  | [] => none
  | p :: r => if p.1 = k then some p.2 else lookN k r
def Tr.get (key : Nat) : Nat → Tr → Nat → Option AO
  | 0, .lf xs, _ => lookN key xs
  | d + 1, .nd l r, k => if k % 2 = 0 then Tr.get key d l (k / 2) else Tr.get key d r (k / 2)
  | _, _, _ => none
def Tr.left : Tr → Tr | .nd l _ => l | _ => .e
def Tr.right : Tr → Tr | .nd _ r => r | _ => .e
def Tr.lst : Tr → List (Nat × AO) | .lf xs => xs | _ => []
def putN (k : Nat) (o : AO) : List (Nat × AO) → List (Nat × AO)
  | [] => [(k, o)]
  | p :: r => if p.1 = k then (k, o) :: r else p :: putN k o r
def Tr.set (key : Nat) (o : AO) : Nat → Tr → Nat → Tr
  | 0, t, _ => .lf (putN key o t.lst)
  | d + 1, t, k => if k % 2 = 0 then .nd (Tr.set key o d t.left (k / 2)) t.right else .nd t.left (Tr.set key o d t.right (k / 2))
theorem lookN_put (k j : Nat) (o : AO) : ∀ xs, lookN j (putN k o xs) = if j = k then some o else lookN j xs
  | [] => by
    by_cases h : j = k
    · subst h; simp [putN, lookN]
    · simp [putN, lookN, h, Ne.symm h]
  | p :: r => by
    have ih := lookN_put k j o r
    by_cases hp : p.1 = k
    · by_cases h : j = k
      · subst h; simp [putN, lookN, hp]
      · have : ¬ p.1 = j := fun e => h (e.symm.trans hp)
        simp [putN, lookN, hp, h, Ne.symm h]
    · by_cases h : j = k
      · subst h; simp [putN, lookN, hp, ih]
      · by_cases hj : p.1 = j
        · simp [putN, lookN, hp, hj, h]
        · simp [putN, lookN, hp, hj, h, ih]
theorem Tr.get_set (key j : Nat) (o : AO) : ∀ (d : Nat) (t : Tr) (k m : Nat), (j = key → k = m) → (Tr.get j d (Tr.set key o d t k) m) = if j = key then some o else Tr.get j d t m
  | 0, t, k, m, h => by
    show lookN j (putN key o t.lst) = _
    rw [lookN_put]
    split
    · rfl
    · cases t <;> rfl
  | d + 1, t, k, m, h => by
    have hl : ∀ m, (Tr.get j (d + 1) t m) = if m % 2 = 0 then Tr.get j d t.left (m / 2) else Tr.get j d t.right (m / 2) := by
      intro m
      cases t with
      | nd l r => rfl
      | e => simp only [Tr.left, Tr.right]; cases d <;> simp [Tr.get]
      | lf xs => simp only [Tr.left, Tr.right]; cases d <;> simp [Tr.get]
    rw [hl m]
    unfold Tr.set
    by_cases hk : k % 2 = 0
    · rw [if_pos hk]
      show (if m % 2 = 0 then Tr.get j d (Tr.set key o d t.left (k / 2)) (m / 2) else Tr.get j d t.right (m / 2)) = _
      by_cases hm : m % 2 = 0
      · rw [if_pos hm, if_pos hm, Tr.get_set key j o d t.left (k / 2) (m / 2) (fun e => by rw [h e])]
      · rw [if_neg hm, if_neg hm]
        by_cases e : j = key
        · exact absurd (h e ▸ hk) hm
        · rw [if_neg e]
    · rw [if_neg hk]
      show (if m % 2 = 0 then Tr.get j d t.left (m / 2) else Tr.get j d (Tr.set key o d t.right (k / 2)) (m / 2)) = _
      by_cases hm : m % 2 = 0
      · rw [if_pos hm, if_pos hm]
        by_cases e : j = key
        · exact absurd (h e ▸ hm) hk
        · rw [if_neg e]
      · rw [if_neg hm, if_neg hm, Tr.get_set key j o d t.right (k / 2) (m / 2) (fun e => by rw [h e])]
/-- a heap: the next number, what stands at numbers -/
structure AHp where
  n : Nat
  t : Tr
def AHp.get (h : AHp) (a : Nat) : Option AO := Tr.get a 14 h.t a
def AHp.set (h : AHp) (a : Nat) (o : AO) : AHp := ⟨h.n, Tr.set a o 14 h.t a⟩
def AHp.add (h : AHp) (o : AO) : AHp := ⟨h.n + 1, Tr.set h.n o 14 h.t h.n⟩
def AHp.emp : AHp := ⟨0, .e⟩
theorem AHp.get_set (h : AHp) (a b : Nat) (o : AO) : (h.set a o).get b = if b = a then some o else h.get b := Tr.get_set a b o 14 h.t a b (fun e => e.symm)
theorem AHp.get_add (h : AHp) (b : Nat) (o : AO) : (h.add o).get b = if b = h.n then some o else h.get b := Tr.get_set h.n b o 14 h.t h.n b (fun e => e.symm)
@[simp] theorem AHp.n_set (h : AHp) (a : Nat) (o : AO) : (h.set a o).n = h.n := rfl
@[simp] theorem AHp.n_add (h : AHp) (o : AO) : (h.add o).n = h.n + 1 := rfl
@[simp] theorem AHp.n_emp : AHp.emp.n = 0 := rfl
theorem AHp.get_emp (a : Nat) : AHp.emp.get a = none := rfl

/-! ### the language -/
inductive BOp | add | sub | mul | fdiv | mod | pow | xor
inductive COp | eq | ne | lt | le | gt | ge | isin | notin | is | isnot
inductive Ty | list | tuple | int | bool | str | dict
inductive Bi | len | int | str | max2 | min2 | maxL | minL | sum | all | any
inductive Me | append | extend | pop | popAt | count | get1 | get2 | update | join | split | startswith | index | clear | replace | setdefault
mutual
/-- a target -/
inductive G where
  | nm (i : Nat) | tp (gs : Gs)
inductive Gs where
  | nil | cons (g : G) (r : Gs)
end
mutual
inductive E where
  | var (i : Nat) | int (i : Int) | bl (b : Bool) | non | str (x : Str) | glo (x : Nat)
  | bin (o : BOp) (a b : E) | neg (a : E) | not (a : E) | and (a b : E) | or (a b : E)
  | cmp (o : COp) (a b : E) | cmp2 (o o2 : COp) (a b c : E) | ite (c a b : E)
  | lst (es : L) | tup (es : L) | dct (kvs : L)
  | lc (elt : E) (g : G) (it : I) (own : List Nat) | lcf (elt : E) (g : G) (it : I) (c : E) (own : List Nat)
  | lc2 (elt : E) (g : G) (it : I) (g2 : G) (it2 : I) (own own2 : List Nat)
  | dc (k v : E) (g : G) (it : I) (own : List Nat)
  | sub (a i : E) | sl (a lo hi : E)
  | call (f : Nat) (es : L) | callk (f : Nat) (es : L) (perm : List Nat)
  | blt (b : Bi) (es : L) | isa (e : E) (one : Bool) (ts : List Ty) | lstE (e : E) | lstR1 (a : E) | lstR2 (a b : E) | lstIt (e : E) | tupE (e : E) | dctE (e : E)
  | bad | lock (i : Nat) (e : E) | iso (e : E)
  | meth (m : Me) (o : E) (es : L) | met (f : Nat) (e : E)
inductive L where
  | nil | cons (e : E) (r : L) | star (e : E) (r : L)
inductive I where
  | seq (e : E) | rng1 (a : E) | rng2 (a b : E) | rng3 (a b c : E) | enum (e : E) | enumS (e s : E) | zip (a b : E) | keys (e : E) | items (e : E) | vals (e : E) | bad
end
mutual
inductive S where
  | asg (i : Nat) (e : E) | asgT (gs : Gs) (e : E) | asgP (is : List Nat) (es : L) | setix (o i e : E)
  | augN (i : Nat) (op : BOp) (e : E) | augIx (o i : E) (op : BOp) (e : E)
  | ex (e : E) | ite (c : E) (a b : B) | forS (g : G) (it : I) (b : B) | whl (c : E) (b : B)
  | ret (e : E) | retN | raise (c : Nat) (es : L) | pass | bad | lock (i : Nat) (s : S)
inductive B where
  | nil | cons (s : S) (r : B) | iso (b : B)
end
/-- how an except clause tells an error: by one of its fields, by two in a tuple, by None -/
inductive HK | fld (f : Nat) | two (f g : Nat) | none
/-- a program: bodies (how many slots, how many parameters), errors' fields, clauses of those that meet, constants -/
structure Prog where
  body : Nat → Option (Nat × Nat × B)
  cls : Nat → Option (List Nat)
  met : Nat → Option (Str × List (Nat × Str × HK))
  con : Nat → Option AV
/-- results -/
inductive Rs (α : Type) where
  | ok (a : α) (h : AHp) | ex (c : Nat) (fs : List (Nat × AV)) (h : AHp) | no
def Rs.bind {α β : Type} : Rs α → (α → AHp → Rs β) → Rs β
  | .ok a h, f => f a h
  | .ex c fs h, _ => .ex c fs h
  | .no, _ => .no
def Rs.noex {α : Type} : Rs α → Rs α
  | .ex _ _ _ => .no
  | r => r
inductive SRs where
  | nx (σ : List (Option AV)) (h : AHp) | rt (v : AV) (h : AHp) | ex (c : Nat) (fs : List (Nat × AV)) (h : AHp) | no
def Rs.sbind {α : Type} : Rs α → (α → AHp → SRs) → SRs
  | .ok a h, f => f a h
  | .ex c fs h, _ => .ex c fs h
  | .no, _ => .no
def SRs.seq : SRs → (List (Option AV) → AHp → SRs) → SRs
  | .nx σ h, f => f σ h
  | r, _ => r
abbrev Sl := List (Option AV)
def isz (n : Nat) : Bool := Nat.ble n 16777216
def strEq (x y : Str) : Bool := x.cps.toList == y.cps.toList
def keyEq : Key → Key → Bool
  | .inl a, .inl b => a == b
  | .inr a, .inr b => strEq a b
  | _, _ => false
/-- a value's truth -/
def truth (h : AHp) : AV → Option Bool
  | .non => some false
  | .bl b => some b
  | .int i => some (i != 0)
  | .str x => if isz x.length then some (!x.cps.toList.isEmpty) else none
  | .ref a => match h.get a with
    | some (.lst xs) => some (!xs.isEmpty)
    | some (.tup xs) => some (!xs.isEmpty)
    | some (.dct kvs) => some (!kvs.isEmpty)
    | _ => none
def truthR (r : Rs AV) : Rs Bool := r.bind fun v h => match truth h v with
  | some b => .ok b h
  | none => .no
/-- the data that stand at a value -/
def rdAll (f : AV → Option PyData) : List AV → Option (List PyData)
  | [] => some []
  | v :: r => match f v with
    | some d => match rdAll f r with
      | some ds => some (d :: ds)
      | none => none
    | none => none
def rd (h : AHp) : Nat → AV → Option PyData
  | _, .non => some .none
  | _, .bl b => some (.bool b)
  | _, .int i => some (.int i)
  | _, .str x => if x.cps.toList.all (fun c => Nat.blt c 1114112) then some (.str x) else none
  | 0, .ref _ => none
  | d + 1, .ref a => match h.get a with
    | some (.lst xs) => (rdAll (rd h d) xs).map .list
    | some (.tup xs) => (rdAll (rd h d) xs).map .tuple
    | _ => none
mutual
def eqd : PyData → PyData → Bool
  | .none, .none => true
  | .bool a, .bool b => a == b
  | .bool a, .int j => (if a then 1 else 0) == j
  | .int i, .bool b => i == (if b then 1 else 0)
  | .int i, .int j => i == j
  | .str x, .str y => strEq x y
  | .list xs, .list ys => eqdAll xs ys
  | .tuple xs, .tuple ys => eqdAll xs ys
  | _, _ => false
def eqdAll : List PyData → List PyData → Bool
  | [], [] => true
  | x :: xs, y :: ys => eqd x y && eqdAll xs ys
  | _, _ => false
end
def eqv (h : AHp) (v w : AV) : Option Bool := match rd h 40 v, rd h 40 w with
  | some d, some e => some (eqd d e)
  | _, _ => none
def keyOf : AV → Option Key
  | .int i => some (.inl i)
  | .str x => some (.inr x)
  | _ => none
def keyV : Key → AV
  | .inl i => .int i
  | .inr x => .str x
def valA (k : Key) : List (Key × AV) → Option AV
  | [] => none
  | p :: r => if keyEq p.1 k then some p.2 else valA k r
def putA (k : Key) (v : AV) (kvs : List (Key × AV)) : List (Key × AV) :=
  if kvs.any fun p => keyEq p.1 k then kvs.map fun p => if keyEq p.1 k then (p.1, v) else p else kvs ++ [(k, v)]
def flatA : AV → Bool
  | .ref _ => false
  | _ => true
def memV (h : AHp) (v : AV) : AV → Option Bool
  | .str y => match v with
    | .str x => match x.cps.toList with
      | [c] => some (y.cps.toList.contains c)
      | _ => none
    | _ => none
  | .ref a => match h.get a with
    | some (.lst xs) => match rd h 40 (.ref a), rd h 40 v with
      | some (.list ds), some d => some (ds.any fun z => eqd z d)
      | _, _ => none
    | some (.tup xs) => if flatA v && xs.all flatA then match rd h 40 (.ref a), rd h 40 v with
      | some (.tuple ds), some d => some (ds.any fun z => eqd z d)
      | _, _ => none else none
    | some (.dct kvs) => (keyOf v).map fun k => (valA k kvs).isSome
    | some (.dctL kvs) => (keyOf v).map fun k => (valA k kvs).isSome
    | _ => none
  | _ => none
def ltStr (x y : Str) : Bool := decide (x.cps.toList < y.cps.toList)
def lift (h : AHp) : Option Bool → Rs AV
  | some b => .ok (.bl b) h
  | none => .no
def cmpA (o : COp) (h : AHp) (v w : AV) : Rs AV := match o with
  | .eq => lift h (eqv h v w)
  | .ne => lift h ((eqv h v w).map (!·))
  | .lt => match v, w with
    | .int i, .int j => .ok (.bl (decide (i < j))) h
    | .str x, .str y => .ok (.bl (ltStr x y)) h
    | _, _ => .no
  | .le => match v, w with
    | .int i, .int j => .ok (.bl (decide (i ≤ j))) h
    | _, _ => .no
  | .gt => match v, w with
    | .int i, .int j => .ok (.bl (decide (j < i))) h
    | _, _ => .no
  | .ge => match v, w with
    | .int i, .int j => .ok (.bl (decide (j ≤ i))) h
    | _, _ => .no
  | .isin => lift h (memV h v w)
  | .notin => lift h ((memV h v w).map (!·))
  | .is => match w with
    | .non => .ok (.bl (match v with | .non => true | _ => false)) h
    | _ => .no
  | .isnot => match w with
    | .non => .ok (.bl (match v with | .non => false | _ => true)) h
    | _ => .no
def small64 (i : Int) : Bool := decide (-18446744073709551616 < i) && decide (i < 18446744073709551616)
def binA (o : BOp) (h : AHp) (v w : AV) : Rs AV := match o, v, w with
  | .add, .int i, .int j => .ok (.int (i + j)) h
  | .sub, .int i, .int j => .ok (.int (i - j)) h
  | .mul, .int i, .int j => if small64 i || small64 j then .ok (.int (i * j)) h else .no
  | .mul, .ref a, .int k => match h.get a with
    | some (.lst xs) => if isz (xs.length * k.toNat) && decide (k < 1073741824) && decide (-1073741824 < k) then .ok (.ref h.n) (h.add (.lst (List.replicate k.toNat xs).flatten)) else .no
    | _ => .no
  | .fdiv, .int i, .int j => if decide (0 < j) && decide (j < 1073741824) then .ok (.int (i / j)) h else .no
  | .mod, .int i, .int j => if decide (0 < j) then .ok (.int (i % j)) h else .no
  | .pow, .int i, .int j => if decide (0 ≤ j) && decide (j ≤ 1000000) && decide (i.natAbs < 18446744073709551616) then .ok (.int (i ^ j.toNat)) h else .no
  | .xor, .int i, .int j => .ok (.int (Builtin.bitXor i j)) h
  | .add, .str x, .str y => if isz (x.length + y.length) then .ok (.str (x ++ y)) h else .no
  | .add, .ref a, .ref b => match h.get a, h.get b with
    | some (.lst xs), some (.lst ys) => if isz (xs.length + ys.length) then .ok (.ref h.n) (h.add (.lst (xs ++ ys))) else .no
    | some (.tup xs), some (.tup ys) => if isz (xs.length + ys.length) then
        if xs.isEmpty then .ok (.ref b) h else if ys.isEmpty then .ok (.ref a) h else .ok (.ref h.n) (h.add (.tup (xs ++ ys)))
      else .no
    | _, _ => .no
  | _, _, _ => .no
/-- v op= w -/
def augA (o : BOp) (h : AHp) (v w : AV) : Rs AV := match o, v, w with
  | .add, .int i, .int j => .ok (.int (i + j)) h
  | .sub, .int i, .int j => .ok (.int (i - j)) h
  | _, _, _ => .no
/-- the kind of a value -/
inductive Kd | non | bl | int | str | lst | tup | dct
def kdA (h : AHp) : AV → Option Kd
  | .non => some .non
  | .bl _ => some .bl
  | .int _ => some .int
  | .str _ => some .str
  | .ref a => match h.get a with
    | some (.lst _) => some .lst
    | some (.tup _) => some .tup
    | some (.dct _) => some .dct
    | some (.dctL _) => some .dct
    | _ => none
def kTab : Kd → Ty → Bool
  | .bl, .int => true
  | .int, .int => true
  | .bl, .bool => true
  | .str, .str => true
  | .lst, .list => true
  | .tup, .tuple => true
  | .dct, .dict => true
  | _, _ => false
def tyAny (h : AHp) (v : AV) (ts : List Ty) : Option Bool := (kdA h v).map fun k => ts.any (kTab k)
/-- an item at an index -/
def ixA (h : AHp) (v w : AV) : Rs AV := match v, w with
  | .str x, .int i => if isz x.length then match atI x.cps.toList i with
    | some c => .ok (.str ⟨#[c]⟩) h
    | none => .no else .no
  | .ref a, w => match h.get a with
    | some (.lst xs) => match w with
      | .int i => match atI xs i with
        | some y => .ok y h
        | none => .no
      | _ => .no
    | some (.tup xs) => match w with
      | .int i => match atI xs i with
        | some y => .ok y h
        | none => .no
      | _ => .no
    | some (.dct kvs) => match keyOf w with
      | some k => match valA k kvs with
        | some y => .ok y h
        | none => .no
      | none => .no
    | some (.dctL kvs) => match keyOf w with
      | some k => match valA k kvs with
        | some y => .ok y h
        | none => .no
      | none => .no
    | _ => .no
  | _, _ => .no
def ixM (h : AHp) (v w : AV) : Rs AV := match v with
  | .ref a => match h.get a with
    | some (.lst xs) => match w with
      | .int i => match atI xs i with
        | some y => .ok y h
        | none => .no
      | _ => .no
    | some (.dct kvs) => match keyOf w with
      | some k => match valA k kvs with
        | some y => .ok y h
        | none => .no
      | none => .no
    | _ => .no
  | _ => .no
def rngOk (i : Int) : Bool := decide (-1073741824 < i) && decide (i < 1073741824)
def optP : E → AV → Option (Option Int)
  | .non, .non => some none
  | .non, _ => none
  | _, .int i => some (some i)
  | _, _ => none
def cutA {α : Type} (xs : List α) (lo hi : Option Int) : List α := (xs.drop (HT.sIx xs.length 0 lo)).take (HT.sIx xs.length xs.length hi - HT.sIx xs.length 0 lo)
def slA (h : AHp) (v : AV) (lo hi : Option Int) : Rs AV := match v with
  | .str x => if isz x.length then .ok (.str ⟨(cutA x.cps.toList lo hi).toArray⟩) h else .no
  | .ref a => match h.get a with
    | some (.lst xs) => .ok (.ref h.n) (h.add (.lst (cutA xs lo hi)))
    | some (.tup xs) => if decide (HT.sIx xs.length 0 lo = 0) && decide (HT.sIx xs.length xs.length hi = xs.length) then .ok (.ref a) h else .ok (.ref h.n) (h.add (.tup (cutA xs lo hi)))
    | _ => .no
  | _ => .no
def setIxA (h : AHp) (o w v : AV) : Option AHp := match o with
  | .ref a => match h.get a with
    | some (.lst xs) => match w with
      | .int i => match ixN xs.length i with
        | some j => some (h.set a (.lst (xs.set j v)))
        | none => none
      | _ => none
    | some (.dct kvs) => match keyOf w with
      | some k => if Nat.blt kvs.length 16777216 then some (h.set a (.dct (putA k v kvs))) else none
      | none => none
    | _ => none
  | _ => none
/-! ### what is walked -/
inductive It where
  | vs (xs : List AV) | lv (a n : Nat) | en (s : Int) (t : It) | zp (t u : It) | prs (ps : List (AV × AV))
def It.len : It → Nat
  | .vs xs => xs.length
  | .lv _ n => n
  | .en _ t => t.len
  | .zp t u => min t.len u.len
  | .prs ps => ps.length
def It.one : It → Nat → AHp → Option AV
  | .vs xs, i, _ => xs[i]?
  | .lv a n, i, h => match h.get a with
    | some (.lst ys) => if ys.length = n then ys[i]? else none
    | some (.scr ys) => if ys.length = n then (ys[i]?).map .int else none
    | _ => none
  | _, _, _ => none
def It.item : It → Nat → AHp → Option (List AV)
  | .en s t, i, h => (t.one i h).map fun v => [.int (s + i), v]
  | .zp t u, i, h => match t.one i h, u.one i h with
    | some v, some w => some [v, w]
    | _, _ => none
  | .prs ps, i, _ => (ps[i]?).map fun p => [p.1, p.2]
  | t, i, h => (t.one i h).map fun v => [v]
def It.fin : It → AHp → Bool
  | .vs _, _ => true
  | .lv a n, h => match h.get a with
    | some (.lst ys) => ys.length == n
    | some (.scr ys) => ys.length == n
    | _ => false
  | .en _ t, h => t.fin h
  | .zp t u, h => t.fin h && u.fin h
  | .prs _, _ => true
def seqIt (h : AHp) : AV → Option It
  | .str x => some (.vs (x.cps.toList.map fun c => .str ⟨#[c]⟩))
  | .ref a => match h.get a with
    | some (.lst xs) => some (.lv a xs.length)
    | some (.scr xs) => some (.lv a xs.length)
    | some (.tup xs) => some (.vs xs)
    | _ => none
  | _ => none
def sqIt (h : AHp) : AV → Option It
  | .ref a => match h.get a with
    | some (.lst xs) => some (.lv a xs.length)
    | some (.scr xs) => some (.lv a xs.length)
    | some (.tup xs) => some (.vs xs)
    | _ => none
  | _ => none
def zpIt (h : AHp) (v w : AV) : Option It := match sqIt h v, sqIt h w with
  | some (.lv a n), some (.lv b m) => some (.zp (.lv a n) (.lv b m))
  | some (.vs xs), some (.vs ys) => some (.zp (.vs xs) (.vs ys))
  | _, _ => none
def rngL (lo : Int) : Nat → List AV
  | 0 => []
  | n + 1 => .int lo :: rngL (lo + 1) n
def rngS (lo st : Int) : Nat → List AV
  | 0 => []
  | n + 1 => .int lo :: rngS (lo + st) st n
mutual
def bindG (h : AHp) : G → AV → Sl → Option Sl
  | .nm i, v, σ => some (σ.set i (some v))
  | .tp gs, .ref a, σ => match h.get a with
    | some (.tup xs) => bindGs h gs xs σ
    | some (.lst xs) => bindGs h gs xs σ
    | _ => none
  | .tp _, _, _ => none
def bindGs (h : AHp) : Gs → List AV → Sl → Option Sl
  | .nil, [], σ => some σ
  | .cons g r, v :: vs, σ => match bindG h g v σ with
    | some σ1 => bindGs h r vs σ1
    | none => none
  | _, _, _ => none
end
def bindIt (h : AHp) : G → List AV → Sl → Option Sl
  | g, [v], σ => bindG h g v σ
  | .tp gs, [v, w], σ => bindGs h gs [v, w] σ
  | _, _, _ => none
def wipeA (σ : Sl) : List Nat → Sl
  | [] => σ
  | v :: vs => (wipeA σ vs).set v none
def compGo (it : It) (turn : List AV → AHp → Rs (Option AV)) : Nat → Nat → List AV → AHp → Rs (List AV)
  | 0, _, acc, h => if it.fin h then .ok acc h else .no
  | m + 1, i, acc, h => match it.item i h with
    | some vs => (turn vs h).noex.bind fun o h1 => match o with
      | some y => if Nat.blt acc.length 16777216 then compGo it turn m (i + 1) (acc ++ [y]) h1 else .no
      | none => compGo it turn m (i + 1) acc h1
    | none => .no
/-- an inner clause's loop: what it has gathered goes on -/
def compIn (it : It) (turn : List AV → AHp → Rs AV) : Nat → Nat → List AV → AHp → Rs (List AV)
  | 0, _, acc, h => if it.fin h then .ok acc h else .no
  | m + 1, i, acc, h => match it.item i h with
    | some vs => (turn vs h).noex.bind fun y h1 => if Nat.blt acc.length 16777216 then compIn it turn m (i + 1) (acc ++ [y]) h1 else .no
    | none => .no
def comp2 (it : It) (turn : List AV → List AV → AHp → Rs (List AV)) : Nat → Nat → List AV → AHp → Rs (List AV)
  | 0, _, acc, h => if it.fin h then .ok acc h else .no
  | m + 1, i, acc, h => match it.item i h with
    | some vs => (turn vs acc h).noex.bind fun acc1 h1 => comp2 it turn m (i + 1) acc1 h1
    | none => .no
def forGo (it : It) (turn : List AV → Sl → AHp → SRs) : Nat → Nat → Sl → AHp → SRs
  | 0, _, σ, h => if it.fin h then .nx σ h else .no
  | m + 1, i, σ, h => match it.item i h with
    | some vs => (turn vs σ h).seq fun σ1 h1 => forGo it turn m (i + 1) σ1 h1
    | none => .no
def whlGo (c : Sl → AHp → Rs Bool) (turn : Sl → AHp → SRs) : Nat → Sl → AHp → SRs
  | 0, _, _ => .no
  | m + 1, σ, h => (c σ h).sbind fun b h1 => if b then (turn σ h1).seq fun σ2 h2 => whlGo c turn m σ2 h2 else .nx σ h1
/-- all that an iterable gives, without names -/
def drain (it : It) (h : AHp) : Nat → Nat → Option (List AV)
  | 0, _ => if it.fin h then some [] else none
  | m + 1, i => match it.one i h with
    | some v => (drain it h m (i + 1)).map (v :: ·)
    | none => none
def drainP (it : It) (h : AHp) : Nat → Nat → Option (List (AV × AV))
  | 0, _ => if it.fin h then some [] else none
  | m + 1, i => match it.item i h with
    | some [v, w] => (drainP it h m (i + 1)).map ((v, w) :: ·)
    | _ => none
def intsOf : List AV → Option (List Int)
  | [] => some []
  | .int i :: r => (intsOf r).map (i :: ·)
  | _ :: _ => none
def blsOf : List AV → Option (List Bool)
  | [] => some []
  | .bl i :: r => (blsOf r).map (i :: ·)
  | _ :: _ => none
def seqOf (h : AHp) : AV → Option (List AV)
  | .ref a => match h.get a with
    | some (.lst xs) => some xs
    | some (.tup xs) => some xs
    | _ => none
  | _ => none
def bltA (b : Bi) (h : AHp) (vs : List AV) : Rs AV := match b, vs with
  | .len, [.str x] => if isz x.length then .ok (.int x.length) h else .no
  | .len, [.ref a] => match h.get a with
    | some (.lst xs) => .ok (.int xs.length) h
    | some (.tup xs) => .ok (.int xs.length) h
    | some (.scr xs) => .ok (.int xs.length) h
    | some (.dct xs) => .ok (.int xs.length) h
    | some (.dctL xs) => .ok (.int xs.length) h
    | _ => .no
  | .int, [.int i] => .ok (.int i) h
  | .int, [.bl b] => .ok (.int (if b then 1 else 0)) h
  | .str, [.int i] => if decide (i.natAbs.log2 < 1920) then .ok (.str (toString i)) h else .no
  | .max2, [.int i, .int j] => .ok (.int (if j > i then j else i)) h
  | .min2, [.int i, .int j] => .ok (.int (if j < i then j else i)) h
  | .sum, [.ref a] => match h.get a with
    | some (.lst xs) => match intsOf xs with
      | some ns => .ok (.int ns.sum) h
      | none => .no
    | _ => .no
  | .all, [.ref a] => match h.get a with
    | some (.lst xs) => match blsOf xs with
      | some bs => .ok (.bl (bs.all id)) h
      | none => .no
    | _ => .no
  | .any, [.ref a] => match h.get a with
    | some (.lst xs) => match blsOf xs with
      | some bs => .ok (.bl (bs.any id)) h
      | none => .no
    | _ => .no
  | _, _ => .no
/-- how often a text stands in a list -/
def countA (h : AHp) (z : Str) : List AV → Option Nat
  | [] => some 0
  | w :: r => match w, countA h z r with
    | .str y, some n => some (if strEq y z then n + 1 else n)
    | .ref a, some n => match h.get a with
      | some (.lst _) => some n
      | some (.tup _) => some n
      | _ => none
    | _, some n => some n
    | _, none => none
def mOk (m : Me) (h : AHp) : AV → Bool
  | .ref a => match h.get a with
    | some (.lst _) => match m with | .append => true | .extend => true | .pop => true | .popAt => true | .count => true | _ => false
    | some (.dct _) => match m with | .get1 => true | .get2 => true | _ => false
    | _ => false
  | _ => false
def methA (m : Me) (h : AHp) (o : AV) (vs : List AV) : Rs AV := match o with
  | .ref a => match h.get a with
    | some (.lst xs) => match m, vs with
      | .append, [y] => if Nat.blt xs.length 16777216 then .ok .non (h.set a (.lst (xs ++ [y]))) else .no
      | .extend, [.ref b] => match h.get b with
        | some (.lst ys) => if isz (xs.length + ys.length) then .ok .non (h.set a (.lst (xs ++ ys))) else .no
        | _ => .no
      | .pop, [] => match xs[xs.length - 1]? with
        | some y => .ok y (h.set a (.lst xs.dropLast))
        | none => .no
      | .popAt, [.int i] => match (if rngOk i then ixN xs.length i else none) with
        | some k => match xs[k]? with
          | some y => .ok y (h.set a (.lst (xs.eraseIdx k)))
          | none => .no
        | none => .no
      | .count, [.str z] => match countA h z xs with
        | some n => .ok (.int n) h
        | none => .no
      | _, _ => .no
    | some (.dct kvs) => match m, vs with
      | .get1, [w] => match keyOf w with
        | some k => .ok ((valA k kvs).getD .non) h
        | none => .no
      | .get2, [w, d] => match keyOf w with
        | some k => .ok ((valA k kvs).getD d) h
        | none => .no
      | _, _ => .no
    | _ => .no
  | _ => .no
def dispA : List AV → List AV → Option (List (Key × AV))
  | [], [] => some []
  | k :: ks, v :: vs => match keyOf k, dispA ks vs with
    | some k, some r => some ((k, v) :: r)
    | _, _ => none
  | _, _ => none
def pairUp : List AV → Option (List (Key × AV))
  | [] => some []
  | [_] => none
  | k :: v :: r => match keyOf k, pairUp r with
    | some k, some ps => some ((k, v) :: ps)
    | _, _ => none
def mergeA (kvs more : List (Key × AV)) : List (Key × AV) := more.foldl (fun acc kv => putA kv.1 kv.2 acc) kvs
/-- the pair that a value is -/
def pairAt (h : AHp) : AV → Option (Key × AV)
  | .ref a => match h.get a with
    | some (.tup [k, v]) => (keyOf k).map fun k => (k, v)
    | _ => none
  | _ => none
def pairsAt (h : AHp) : List AV → Option (List (Key × AV))
  | [] => some []
  | v :: r => match pairAt h v, pairsAt h r with
    | some p, some ps => some (p :: ps)
    | _, _ => none
def fldOf (f : Nat) : List (Nat × AV) → Option AV
  | [] => none
  | p :: r => if p.1 = f then some p.2 else fldOf f r
/-- what a clause hands back -/
def handX (hs : List (Nat × Str × HK)) (c : Nat) (fl : List Nat) (fs : List (Nat × AV)) (h : AHp) : Rs AV :=
  if fs.all (fun p => fl.contains p.1) then match hs.find? (fun q => q.1 == c) with
    | some (_, w, .fld f) => match fldOf f fs with
      | some v => .ok (.ref h.n) (h.add (.tup [.str w, v]))
      | none => .no
    | some (_, w, .two f g) => match fldOf f fs, fldOf g fs with
      | some u, some v => .ok (.ref (h.n + 1)) ((h.add (.tup [u, v])).add (.tup [.str w, .ref h.n]))
      | _, _ => .no
    | some (_, w, .none) => .ok (.ref h.n) (h.add (.tup [.str w, .non]))
    | none => .no
  else .no
def handA (cls : Nat → Option (List Nat)) (told : Str) (hs : List (Nat × Str × HK)) : Rs AV → Rs AV
  | .ok v h => .ok (.ref h.n) (h.add (.tup [.str told, v]))
  | .ex c fs h => match cls c with
    | some fl => handX hs c fl fs h
    | none => .no
  | .no => .no
def permA (vs : List AV) : List Nat → Option (List AV)
  | [] => some []
  | i :: r => match vs[i]?, permA vs r with
    | some v, some ws => some (v :: ws)
    | _, _ => none
/-- the slots that hold no object -/
def scal : Sl → Sl
  | [] => []
  | some v :: r => (if flatA v then some v else none) :: scal r
  | none :: r => none :: scal r
/-- behind a locked dict -/
def unlock (a : Nat) (h : AHp) : Option AHp := match h.get a with
  | some (.dctL kvs) => some (h.set a (.dct kvs))
  | _ => none
def lockA (σ : Sl) (i : Nat) (h : AHp) : Option (Nat × AHp) := match σ[i]? with
  | some (some (.ref a)) => match h.get a with
    | some (.dct kvs) => some (a, h.set a (.dctL kvs))
    | _ => none
  | _ => none
def lockedA (h : AHp) : AV → Option (List (Key × AV))
  | .ref a => match h.get a with
    | some (.dctL kvs) => some kvs
    | _ => none
  | _ => none
def SRs.lk (a : Nat) : SRs → SRs
  | .nx σ h => match unlock a h with
    | some h1 => .nx σ h1
    | none => .no
  | .rt v h => match unlock a h with
    | some h1 => .rt v h1
    | none => .no
  | _ => .no
def lstA (h : AHp) : AV → Rs AV
  | .ref a => match h.get a with
    | some (.lst xs) => .ok (.ref h.n) (h.add (.lst xs))
    | some (.tup xs) => .ok (.ref h.n) (h.add (.lst xs))
    | some (.scr xs) => .ok (.ref h.n) (h.add (.lst (xs.map .int)))
    | some (.dct kvs) => .ok (.ref h.n) (h.add (.lst (kvs.map fun p => keyV p.1)))
    | _ => .no
  | _ => .no
def tupA (h : AHp) : AV → Rs AV
  | .ref a => match h.get a with
    | some (.lst xs) => .ok (.ref h.n) (h.add (.tup xs))
    | some (.tup xs) => .ok (.ref a) h
    | _ => .no
  | _ => .no
def dctA (h : AHp) : AV → Rs AV
  | .ref a => match h.get a with
    | some (.lst xs) => match pairsAt h xs with
      | some kvs => if isz kvs.length then .ok (.ref h.n) (h.add (.dct (mergeA [] kvs))) else .no
      | none => .no
    | some (.dct kvs) => .ok (.ref h.n) (h.add (.dct kvs))
    | _ => .no
  | _ => .no
/-- list(d.items()): the pairs, then the list -/
def addPairs (h : AHp) : List (Key × AV) → AHp
  | [] => h
  | p :: r => addPairs (h.add (.tup [keyV p.1, p.2])) r
def nodupK : List (Key × AV) → Bool
  | [] => true
  | p :: r => !(r.any fun p' => keyEq p'.1 p.1) && nodupK r
def itemsA (h : AHp) : AV → Rs AV
  | .ref a => match h.get a with
    | some (.dct kvs) => if nodupK kvs then .ok (.ref (h.n + kvs.length)) ((addPairs h kvs).add (.lst ((List.range kvs.length).map fun i => .ref (h.n + i)))) else .no
    | _ => .no
  | _ => .no
structure Cf where
  P : Prog
  callf : Nat → List AV → AHp → Rs AV
  F : Nat
mutual
def evE (C : Cf) : E → Sl → AHp → Rs AV
  | .var i, σ, h => match σ[i]? with
    | some (some v) => .ok v h
    | _ => .no
  | .int i, _, h => .ok (.int i) h
  | .bl b, _, h => .ok (.bl b) h
  | .non, _, h => .ok .non h
  | .str x, _, h => .ok (.str x) h
  | .glo x, _, h => match C.P.con x with
    | some v => .ok v h
    | none => .no
  | .bin o a b, σ, h => (evE C a σ h).bind fun v h1 => (evE C b σ h1).bind fun w h2 => binA o h2 v w
  | .neg a, σ, h => (evE C a σ h).bind fun v h1 => match v with
    | .int i => .ok (.int (-i)) h1
    | _ => .no
  | .not a, σ, h => (truthR (evE C a σ h)).bind fun b h1 => .ok (.bl (!b)) h1
  | .and a b, σ, h => (evE C a σ h).bind fun v h1 => match truth h1 v with
    | some true => evE C b σ h1
    | some false => .ok v h1
    | none => .no
  | .or a b, σ, h => (evE C a σ h).bind fun v h1 => match truth h1 v with
    | some true => .ok v h1
    | some false => evE C b σ h1
    | none => .no
  | .cmp o a b, σ, h => (evE C a σ h).bind fun v h1 => (evE C b σ h1).bind fun w h2 => cmpA o h2 v w
  | .cmp2 o o2 a b c, σ, h => (evE C a σ h).bind fun v h1 => (evE C b σ h1).bind fun w h2 => (cmpA o h2 v w).bind fun r h3 => match r with
    | .bl true => (evE C c σ h3).bind fun z h4 => cmpA o2 h4 w z
    | .bl false => .ok (.bl false) h3
    | _ => .no
  | .ite c a b, σ, h => (truthR (evE C c σ h)).bind fun t h1 => if t then evE C a σ h1 else evE C b σ h1
  | .lst es, σ, h => (evL C es σ h).bind fun vs h1 => if isz vs.length then .ok (.ref h1.n) (h1.add (.lst vs)) else .no
  | .tup es, σ, h => (evL C es σ h).bind fun vs h1 => if isz vs.length then .ok (.ref h1.n) (h1.add (.tup vs)) else .no
  | .dct kvs, σ, h => (evL C kvs σ h).bind fun vs h1 => match pairUp vs with
    | some ps => if Nat.ble ps.length 15 then .ok (.ref h1.n) (h1.add (.dct (mergeA [] ps))) else .no
    | none => .no
  | .lc e g it own, σ, h => (evI C it σ h).bind fun t h1 =>
      (compGo t (fun vs h2 => match bindIt h2 g vs (wipeA σ own) with
        | some σ1 => (evE C e σ1 h2).bind fun v h3 => .ok (some v) h3
        | none => .no) t.len 0 [] h1).bind fun xs h4 => .ok (.ref h4.n) (h4.add (.lst xs))
  | .lcf e g it c own, σ, h => (evI C it σ h).bind fun t h1 =>
      (compGo t (fun vs h2 => match bindIt h2 g vs (wipeA σ own) with
        | some σ1 => (truthR (evE C c σ1 h2)).bind fun b h3 => if b then (evE C e σ1 h3).bind fun v h4 => .ok (some v) h4 else .ok none h3
        | none => .no) t.len 0 [] h1).bind fun xs h4 => .ok (.ref h4.n) (h4.add (.lst xs))
  | .lc2 e g it g2 it2 own own2, σ, h => (evI C it σ h).bind fun t h1 =>
      (comp2 t (fun vs acc h2 => match bindIt h2 g vs (wipeA σ own) with
        | some σ1 => (evI C it2 σ1 h2).bind fun t2 h3 =>
          compIn t2 (fun ws h4 => match bindIt h4 g2 ws (wipeA σ1 own2) with
            | some σ2 => evE C e σ2 h4
            | none => .no) t2.len 0 acc h3
        | none => .no) t.len 0 [] h1).bind fun xs h4 => .ok (.ref h4.n) (h4.add (.lst xs))
  | .dc k v g it own, σ, h => (evI C it σ h).bind fun t h1 =>
      (compGo t (fun vs h2 => match bindIt h2 g vs (wipeA σ own) with
        | some σ1 => (evE C k σ1 h2).bind fun kv h3 => (evE C v σ1 h3).bind fun vv h4 => .ok (some (.ref h4.n)) (h4.add (.tup [kv, vv]))
        | none => .no) t.len 0 [] h1).bind fun xs h4 => match pairsAt h4 xs with
          | some ps => .ok (.ref h4.n) (h4.add (.dct (mergeA [] ps)))
          | none => .no
  | .sub a i, σ, h => (evE C a σ h).bind fun v h1 => (evE C i σ h1).bind fun w h2 => ixA h2 v w
  | .sl a lo hi, σ, h => (evE C a σ h).bind fun v h1 => ((evE C lo σ h1).bind fun v h1 => match optP lo v with | some l => Rs.ok l h1 | none => .no).bind fun l h2 =>
      ((evE C hi σ h2).bind fun v h1 => match optP hi v with | some l => Rs.ok l h1 | none => .no).bind fun u h3 => slA h3 v l u
  | .call f es, σ, h => (evL C es σ h).bind fun vs h1 => C.callf f vs h1
  | .callk f es perm, σ, h => (evL C es σ h).bind fun vs h1 => match permA vs perm with
    | some ws => C.callf f ws h1
    | none => .no
  | .blt b es, σ, h => (evL C es σ h).bind fun vs h1 => bltA b h1 vs
  | .isa e _ ts, σ, h => (evE C e σ h).bind fun v h1 => lift h1 (tyAny h1 v ts)
  | .lstE e, σ, h => (evE C e σ h).bind fun v h1 => lstA h1 v
  | .lstR1 a, σ, h => (evE C a σ h).bind fun v h1 => match v with
    | .int j => if rngOk j && isz j.toNat then .ok (.ref h1.n) (h1.add (.lst (rngL 0 j.toNat))) else .no
    | _ => .no
  | .lstR2 a b, σ, h => (evE C a σ h).bind fun v h1 => (evE C b σ h1).bind fun w h2 => match v, w with
    | .int i, .int j => if rngOk i && rngOk j && isz (j - i).toNat then .ok (.ref h2.n) (h2.add (.lst (rngL i (j - i).toNat))) else .no
    | _, _ => .no
  | .lstIt e, σ, h => (evE C e σ h).bind fun v h1 => itemsA h1 v
  | .tupE e, σ, h => (evE C e σ h).bind fun v h1 => tupA h1 v
  | .dctE e, σ, h => (evE C e σ h).bind fun v h1 => dctA h1 v
  | .bad, _, _ => .no
  | .iso e, σ, h => match evE C e (scal σ) AHp.emp with
    | .ok v _ => if flatA v then .ok v h else .no
    | _ => .no
  | .lock i e, σ, h => match lockA σ i h with
    | some (a, h1) => (evE C e σ h1).noex.bind fun v h2 => match unlock a h2 with
      | some h3 => .ok v h3
      | none => .no
    | none => .no
  | .meth m o es, σ, h => (evE C o σ h).bind fun v h1 => if mOk m h1 v then (evL C es σ h1).bind fun vs h2 => methA m h2 v vs else .no
  | .met f e, σ, h => match C.P.met f with
    | some (told, hs) => handA C.P.cls told hs (evE C e σ h)
    | none => .no
def evL (C : Cf) : L → Sl → AHp → Rs (List AV)
  | .nil, _, h => .ok [] h
  | .cons e r, σ, h => (evE C e σ h).bind fun v h1 => (evL C r σ h1).bind fun vs h2 => .ok (v :: vs) h2
  | .star e r, σ, h => (evE C e σ h).bind fun v h1 => match seqOf h1 v with
    | some xs => (evL C r σ h1).bind fun vs h2 => .ok (xs ++ vs) h2
    | none => .no
def evI (C : Cf) : I → Sl → AHp → Rs It
  | .seq e, σ, h => (evE C e σ h).bind fun v h1 => match seqIt h1 v with
    | some t => .ok t h1
    | none => .no
  | .rng1 a, σ, h => (evE C a σ h).bind fun v h1 => match v with
    | .int j => if rngOk j then .ok (.vs (rngL 0 j.toNat)) h1 else .no
    | _ => .no
  | .rng2 a b, σ, h => (evE C a σ h).bind fun v h1 => (evE C b σ h1).bind fun w h2 => match v, w with
    | .int i, .int j => if rngOk i && rngOk j then .ok (.vs (rngL i (j - i).toNat)) h2 else .no
    | _, _ => .no
  | .rng3 a b c, σ, h => (evE C a σ h).bind fun v h1 => (evE C b σ h1).bind fun w h2 => (evE C c σ h2).bind fun z h3 => match v, w, z with
    | .int i, .int j, .int k => if rngOk i && rngOk j && rngOk k && decide (0 < k) then .ok (.vs (rngS i k ((j - i + k - 1) / k).toNat)) h3 else .no
    | _, _, _ => .no
  | .enum e, σ, h => (evE C e σ h).bind fun v h1 => match sqIt h1 v with
    | some t => .ok (.en 0 t) h1
    | none => .no
  | .enumS e s, σ, h => (evE C e σ h).bind fun v h1 => (evE C s σ h1).bind fun w h2 => match sqIt h2 v, w with
    | some t, .int i => if rngOk i then .ok (.en i t) h2 else .no
    | _, _ => .no
  | .zip a b, σ, h => (evE C a σ h).bind fun v h1 => (evE C b σ h1).bind fun w h2 => match zpIt h2 v w with
    | some t => .ok t h2
    | none => .no
  | .keys e, σ, h => (evE C e σ h).bind fun v h1 => match lockedA h1 v with
    | some kvs => .ok (.vs (kvs.map fun p => keyV p.1)) h1
    | none => .no
  | .items e, σ, h => (evE C e σ h).bind fun v h1 => match lockedA h1 v with
    | some kvs => .ok (.prs (kvs.map fun p => (keyV p.1, p.2))) h1
    | none => .no
  | .vals e, σ, h => (evE C e σ h).bind fun v h1 => match lockedA h1 v with
    | some kvs => .ok (.vs (kvs.map fun p => p.2)) h1
    | none => .no
  | .bad, _, _ => .no
end
mutual
def evS (C : Cf) : S → Sl → AHp → SRs
  | .asg i e, σ, h => (evE C e σ h).sbind fun v h1 => .nx (σ.set i (some v)) h1
  | .asgT gs e, σ, h => (evE C e σ h).sbind fun v h1 => match bindG h1 (.tp gs) v σ with
    | some σ1 => .nx σ1 h1
    | none => .no
  | .asgP is es, σ, h => (evL C es σ h).sbind fun vs h1 => if vs.length = is.length then .nx ((is.zip vs).foldl (fun s p => s.set p.1 (some p.2)) σ) h1 else .no
  | .setix o i e, σ, h => (evE C e σ h).sbind fun v h1 => (evE C o σ h1).sbind fun a h2 => (evE C i σ h2).sbind fun w h3 => match setIxA h3 a w v with
    | some h4 => .nx σ h4
    | none => .no
  | .augN i op e, σ, h => match σ[i]? with
    | some (some v) => (evE C e σ h).sbind fun w h1 => (augA op h1 v w).sbind fun z h2 => .nx (σ.set i (some z)) h2
    | _ => .no
  | .augIx o i op e, σ, h => (evE C o σ h).sbind fun a h1 => (evE C i σ h1).sbind fun w h2 => (ixM h2 a w).sbind fun x h3 => (evE C e σ h3).sbind fun y h4 => (augA op h4 x y).sbind fun z h5 => match setIxA h5 a w z with
      | some h6 => .nx σ h6
      | none => .no
  | .ex e, σ, h => (evE C e σ h).sbind fun _ h1 => .nx σ h1
  | .ite c a b, σ, h => (truthR (evE C c σ h)).sbind fun t h1 => if t then evB C a σ h1 else evB C b σ h1
  | .forS g it b, σ, h => (evI C it σ h).sbind fun t h1 => forGo t (fun vs σ1 h2 => match bindIt h2 g vs σ1 with
    | some σ2 => evB C b σ2 h2
    | none => .no) t.len 0 σ h1
  | .whl c b, σ, h => whlGo (fun σ1 h1 => truthR (evE C c σ1 h1)) (fun σ1 h1 => evB C b σ1 h1) C.F σ h
  | .ret e, σ, h => (evE C e σ h).sbind fun v h1 => .rt v h1
  | .retN, _, h => .rt .non h
  | .raise c es, σ, h => (evL C es σ h).sbind fun vs h1 => match C.P.cls c with
    | some fs => if vs.length = fs.length then .ex c (fs.zip vs).reverse h1 else .no
    | none => .no
  | .pass, σ, h => .nx σ h
  | .bad, _, _ => .no
  | .lock i s, σ, h => match lockA σ i h with
    | some (a, h1) => (evS C s σ h1).lk a
    | none => .no
def evB (C : Cf) : B → Sl → AHp → SRs
  | .nil, σ, h => .nx σ h
  | .cons s r, σ, h => (evS C s σ h).seq fun σ1 h1 => evB C r σ1 h1
  | .iso b, σ, h => match evB C b (scal σ) AHp.emp with
    | .rt v _ => if flatA v then .rt v h else .no
    | _ => .no
end
/-- a def's end -/
def SRs.fin : SRs → Rs AV
  | .nx _ h => .ok .non h
  | .rt v h => .ok v h
  | .ex c fs h => .ex c fs h
  | .no => .no
def start (n : Nat) (vs : List AV) : Sl := vs.map some ++ List.replicate (n - vs.length) none
/-- a body run with what its calls give -/
def runB (C : Cf) (f : Nat) (vs : List AV) (h : AHp) : Rs AV := match C.P.body f with
  | some (n, k, b) => if vs.length = k then (evB C b (start n vs) h).fin else .no
  | none => .no
/-- a call, so many calls deep at most -/
def run (P : Prog) (F : Nat) : Nat → Nat → List AV → AHp → Rs AV
  | 0, _, _, _ => .no
  | d + 1, f, vs, h => runB ⟨P, run P F d, F⟩ f vs h
end AH

set_option Elab.async false
set_option linter.all false
set_option maxRecDepth 100000
set_option maxHeartbeats 4000000
/-! AH2: how the heap of AH lies in the layer's abstract heap. -/
namespace AH
open PySem PySem.Spec L2
abbrev Mu := Nat → Option Addr
/-- what is fixed through a law: the written part, tables, the script -/
structure Gm where
  K : PySem.W.Frag
  T : List (Addr × Str)
  nmC : Nat → Addr
  nmF : Nat → Str

def RV (μ : Mu) : AV → V → Prop
  | .non, x => x = .non
  | .bl b, x => x = .bl b
  | .int i, x => x = .int i
  | .str s, x => x = .str s
  | .ref n, x => ∃ a, μ n = some a ∧ x = .ref a
abbrev RVs (μ : Mu) : List AV → List V → Prop := Paired (RV μ)
abbrev RKV (μ : Mu) : List (Key × AV) → List (Key × V) → Prop := Paired fun p q => p.1 = q.1 ∧ RV μ p.2 q.2
def RO (K : PySem.W.Frag) (μ : Mu) (H : Hp) (a : Addr) : AO → Prop
  | .lst xs => ∃ vs, H a = some (.lst vs) ∧ RVs μ xs vs
  | .tup xs => ∃ vs, H a = some (.tup vs) ∧ RVs μ xs vs
  | .dct kvs => ∃ ws, H a = some (.dK ws) ∧ RKV μ kvs ws
  | .dctL kvs => ∃ o ws, H a = some (.frz o (.dK ws)) ∧ RKV μ kvs ws
  | .scr ns => ∃ u, H a = some u ∧ (u = .lst (ns.map V.int) ∨ ∃ o, u = .frz o (.lst (ns.map V.int)))
structure Rel (Γ : Gm) (μ : Mu) (h : AHp) (H : Hp) : Prop where
  obj : ∀ i o, h.get i = some o → ∃ a, μ i = some a ∧ RO Γ.K μ H a o
  inj : ∀ i j a, μ i = some a → μ j = some a → i = j
  dom : ∀ i a, μ i = some a → i < h.n
  trk : ∀ i a, μ i = some a → ∃ u, H a = some u ∧ ∀ ps, u ≠ .tbl ps
  tab : LamX.Tabs Γ.T H
/-- nothing, or a table -/
def Fr (H : Hp) (a : Addr) : Prop := ∀ o, H a = some o → ∃ ps, o = .tbl ps
theorem Fr.none {H : Hp} {a : Addr} (h : H a = none) : Fr H a := fun o e => by rw [h] at e; cases e
structure Ext (μ : Mu) (H : Hp) (μ1 : Mu) (H1 : Hp) : Prop where
  le : ∀ i a, μ i = some a → μ1 i = some a
  new : ∀ i a, μ1 i = some a → (∃ j, μ j = some a) ∨ Fr H a
  fr : ∀ b o, H b = some o → (∀ ps, o ≠ .tbl ps) → (∀ i, μ i ≠ some b) → H1 b = some o
  tups : ∀ b xs, H b = some (.tup xs) → H1 b = some (.tup xs)
  frzs : ∀ b o u, H b = some (.frz o u) → H1 b = some (.frz o u)
def RS (μ : Mu) (σa : Sl) (σ : St) : Prop := σa.length = σ.length ∧ ∀ (i : Nat) v, σa[i]? = some (some v) → ∃ x, σ[i]? = some (some x) ∧ RV μ v x
abbrev RF (Γ : Gm) (μ : Mu) : List (Nat × AV) → List (Str × V) → Prop := Paired fun p q => Γ.nmF p.1 = q.1 ∧ RV μ p.2 q.2

/-! ### lists in pairs -/
section
variable {α β : Type} {R R' : α → β → Prop}
theorem Pd.length : ∀ {xs : List α} {ys : List β}, Paired R xs ys → xs.length = ys.length
  | _, _, .nil => rfl
  | _, _, .cons _ t => by simp [Pd.length t]
theorem Pd.append : ∀ {xs xs' : List α} {ys ys' : List β}, Paired R xs ys → Paired R xs' ys' → Paired R (xs ++ xs') (ys ++ ys')
  | _, _, _, _, .nil, s => s
  | _, _, _, _, .cons r t, s => .cons r (Pd.append t s)
theorem Pd.take : ∀ {xs : List α} {ys : List β} (n : Nat), Paired R xs ys → Paired R (xs.take n) (ys.take n)
  | _, _, 0, _ => .nil
  | _, _, _ + 1, .nil => .nil
  | _, _, n + 1, .cons r t => .cons r (Pd.take n t)
theorem Pd.drop : ∀ {xs : List α} {ys : List β} (n : Nat), Paired R xs ys → Paired R (xs.drop n) (ys.drop n)
  | _, _, 0, r => r
  | _, _, _ + 1, .nil => .nil
  | _, _, n + 1, .cons _ t => Pd.drop n t
theorem Pd.get : ∀ {xs : List α} {ys : List β} {i : Nat} {x : α}, Paired R xs ys → xs[i]? = some x → ∃ y, ys[i]? = some y ∧ R x y
  | _, _, _, _, .nil, e => by simp at e
  | _, _, 0, _, .cons r _, e => by simp at e; subst e; exact ⟨_, rfl, r⟩
  | _, _, i + 1, x, .cons _ t, e => by
    obtain ⟨u, h1, h2⟩ := Pd.get (i := i) (x := x) t (by simpa using e)
    exact ⟨u, by simpa using h1, h2⟩
theorem Pd.get' : ∀ {xs : List α} {ys : List β} {i : Nat} {y : β}, Paired R xs ys → ys[i]? = some y → ∃ x, xs[i]? = some x ∧ R x y
  | _, _, _, _, .nil, e => by simp at e
  | _, _, 0, _, .cons r _, e => by simp at e; subst e; exact ⟨_, rfl, r⟩
  | _, _, i + 1, x, .cons _ t, e => by
    obtain ⟨u, h1, h2⟩ := Pd.get' (i := i) (y := x) t (by simpa using e)
    exact ⟨u, by simpa using h1, h2⟩
theorem Pd.set {x : α} {y : β} (r : R x y) : ∀ {xs : List α} {ys : List β} (i : Nat), Paired R xs ys → Paired R (xs.set i x) (ys.set i y)
  | _, _, _, .nil => .nil
  | _, _, 0, .cons _ t => .cons r t
  | _, _, i + 1, .cons q t => .cons q (Pd.set r i t)
theorem Pd.erase : ∀ {xs : List α} {ys : List β} (i : Nat), Paired R xs ys → Paired R (xs.eraseIdx i) (ys.eraseIdx i)
  | _, _, _, .nil => .nil
  | _, _, 0, .cons _ t => t
  | _, _, i + 1, .cons q t => .cons q (Pd.erase i t)
theorem Pd.dropLast : ∀ {xs : List α} {ys : List β}, Paired R xs ys → Paired R xs.dropLast ys.dropLast
  | _, _, .nil => .nil
  | _, _, .cons r .nil => .nil
  | _, _, .cons r (.cons r' t) => .cons r (Pd.dropLast (.cons r' t))
theorem Pd.imp (f : ∀ a b, R a b → R' a b) : ∀ {xs : List α} {ys : List β}, Paired R xs ys → Paired R' xs ys
  | _, _, .nil => .nil
  | _, _, .cons r t => .cons (f _ _ r) (Pd.imp f t)
theorem Pd.flat (n : Nat) {xs : List α} {ys : List β} (h : Paired R xs ys) : Paired R (List.replicate n xs).flatten (List.replicate n ys).flatten := by
  induction n with
  | zero => exact .nil
  | succ n ih => simp only [List.replicate_succ, List.flatten_cons]; exact Pd.append h ih
theorem Pd.emp {xs : List α} {ys : List β} (h : Paired R xs ys) : xs.isEmpty = ys.isEmpty := by cases h <;> rfl
end

/-! ### monotone -/
section
variable {Γ : Gm} {μ μ1 μ2 : Mu} {h h1 : AHp} {H H1 H2 : Hp}
theorem RV.mono (e : ∀ i a, μ i = some a → μ1 i = some a) : ∀ {v : AV} {x : V}, RV μ v x → RV μ1 v x
  | .non, _, r => r
  | .bl _, _, r => r
  | .int _, _, r => r
  | .str _, _, r => r
  | .ref _, _, ⟨a, h, r⟩ => ⟨a, e _ _ h, r⟩
theorem RVs.mono (e : ∀ i a, μ i = some a → μ1 i = some a) {vs : List AV} {xs : List V} (r : RVs μ vs xs) : RVs μ1 vs xs := Pd.imp (fun _ _ h => RV.mono e h) r
theorem RKV.mono (e : ∀ i a, μ i = some a → μ1 i = some a) {vs : List (Key × AV)} {xs : List (Key × V)} (r : RKV μ vs xs) : RKV μ1 vs xs := Pd.imp (fun _ _ h => ⟨h.1, RV.mono e h.2⟩) r
theorem RF.mono (e : ∀ i a, μ i = some a → μ1 i = some a) {vs : List (Nat × AV)} {xs : List (Str × V)} (r : RF Γ μ vs xs) : RF Γ μ1 vs xs := Pd.imp (fun _ _ h => ⟨h.1, RV.mono e h.2⟩) r
theorem RS.mono (e : ∀ i a, μ i = some a → μ1 i = some a) {σa : Sl} {σ : St} (r : RS μ σa σ) : RS μ1 σa σ := ⟨r.1, fun i v q => let ⟨x, a, b⟩ := r.2 i v q; ⟨x, a, b.mono e⟩⟩
theorem RO.mono (e : ∀ i a, μ i = some a → μ1 i = some a) {K : PySem.W.Frag} {a : Addr} (k : H1 a = H a) : ∀ {o : AO}, RO K μ H a o → RO K μ1 H1 a o
  | .lst _, ⟨vs, q, r⟩ => ⟨vs, k.trans q, r.mono e⟩
  | .tup _, ⟨vs, q, r⟩ => ⟨vs, k.trans q, r.mono e⟩
  | .dct _, ⟨vs, q, r⟩ => ⟨vs, k.trans q, r.mono e⟩
  | .dctL _, ⟨o, vs, q, r⟩ => ⟨o, vs, k.trans q, r.mono e⟩
  | .scr _, ⟨u, q, z⟩ => ⟨u, k.trans q, z⟩
theorem Ext.refl (μ : Mu) (H : Hp) : Ext μ H μ H := ⟨fun _ _ h => h, fun i _ h => .inl ⟨i, h⟩, fun _ _ h _ _ => h, fun _ _ h => h, fun _ _ _ h => h⟩
theorem Ext.trans (a : Ext μ H μ1 H1) (b : Ext μ1 H1 μ2 H2) : Ext μ H μ2 H2 where
  le := fun i x q => b.le i x (a.le i x q)
  new := fun i x q => by
    rcases b.new i x q with ⟨j, z⟩ | z
    · exact a.new j x z
    · by_cases im : ∃ j, μ j = some x
      · exact .inl im
      · refine .inr fun o ho => Classical.byContradiction fun nt => ?_
        have := a.fr x o ho (fun ps e => nt ⟨ps, e⟩) fun i z => im ⟨i, z⟩
        exact nt (z o this)
  fr := fun x o q nt ni => b.fr x o (a.fr x o q nt ni) nt fun i z => by
    rcases a.new i x z with ⟨j, y⟩ | y
    · exact ni j y
    · obtain ⟨ps, e⟩ := y o q
      exact nt ps e
  tups := fun x xs q => b.tups x xs (a.tups x xs q)
  frzs := fun x o u q => b.frzs x o u (a.frzs x o u q)
/-- what is read at an address of the image is of no table's kind -/
theorem RO.some {K : PySem.W.Frag} {a : Addr} : ∀ {o : AO}, RO K μ H a o → ∃ u, H a = some u ∧ ∀ ps, u ≠ .tbl ps
  | .lst _, ⟨_, q, _⟩ => ⟨_, q, fun _ z => by cases z⟩
  | .tup _, ⟨_, q, _⟩ => ⟨_, q, fun _ z => by cases z⟩
  | .dct _, ⟨_, q, _⟩ => ⟨_, q, fun _ z => by cases z⟩
  | .dctL _, ⟨_, _, q, _⟩ => ⟨_, q, fun _ z => by cases z⟩
  | .scr _, ⟨u, q, z⟩ => ⟨u, q, fun ps w => by rcases z with z | ⟨o, z⟩ <;> rw [z] at w <;> cases w⟩
theorem Rel.ne (r : Rel Γ μ h H) (i : Nat) (a : Addr) (q : μ i = some a) (e : H a = none) : False := by
  obtain ⟨u, hu, _⟩ := r.trk i a q
  rw [e] at hu; cases hu
/-- the map with one more -/
def Mu.add (μ : Mu) (n : Nat) (p : Addr) : Mu := fun i => if i = n then some p else μ i
theorem Mu.add_same {n : Nat} {p : Addr} : μ.add n p n = some p := if_pos rfl
theorem Mu.add_ne {n i : Nat} {p : Addr} (h : i ≠ n) : μ.add n p i = μ i := if_neg h
theorem Rel.fresh (r : Rel Γ μ h H) {i : Nat} (hi : h.n ≤ i) : μ i = none := by
  cases q : μ i with
  | none => rfl
  | some a => exact absurd (r.dom i a q) (by omega)
theorem Rel.addLe (r : Rel Γ μ h H) {p : Addr} : ∀ i a, μ i = some a → μ.add h.n p i = some a := fun i a q => by
  rw [Mu.add_ne (Nat.ne_of_lt (r.dom i a q))]; exact q
/-- a tracked object that is not of the image: any change of it that leaves tables -/
theorem tabs_upd {T : List (Addr × Str)} {p : Addr} {u : HO} (t : LamX.Tabs T H) (hn : H p = none ∨ ∃ o, H p = some o ∧ (∀ ps, o ≠ .tbl ps) ∧ ∀ c q, o ≠ LamX.CodeO c q) : LamX.Tabs T (upd H p u) := fun x hx => by
  obtain ⟨ps, h1, h2, h3⟩ := t x hx
  have ne : ∀ b o, H b = some o → ((∃ ps, o = .tbl ps) ∨ ∃ c q, o = LamX.CodeO c q) → b ≠ p := fun b o e k z => by
    subst z
    rcases hn with n | ⟨o', e', n1, n2⟩
    · rw [n] at e; cases e
    · rw [e'] at e; cases e
      rcases k with ⟨ps, k⟩ | ⟨c, q, k⟩
      · exact n1 ps k
      · exact n2 c q k
  refine ⟨ps, by rw [upd_ne (ne _ _ h1 (.inl ⟨_, rfl⟩))]; exact h1, h2, fun pos cv hc => ?_⟩
  obtain ⟨c, e1, e2⟩ := h3 pos cv hc
  exact ⟨c, e1, by rw [upd_ne (ne _ _ e2 (.inr ⟨_, _, rfl⟩))]; exact e2⟩
/-- a new object -/
theorem Rel.add (r : Rel Γ μ h H) {p : Addr} {o : AO} {u : HO} (hp : H p = none) (ro : RO Γ.K (μ.add h.n p) (upd H p u) p o) : Rel Γ (μ.add h.n p) (h.add o) (upd H p u) ∧ Ext μ H (μ.add h.n p) (upd H p u) := by
  have np : ∀ i, μ i ≠ some p := fun i q => r.ne i p q hp
  have ne : ∀ i a, μ i = some a → a ≠ p := fun i a q z => np i (z ▸ q)
  refine ⟨⟨fun i x q => ?_, fun i j a q1 q2 => ?_, fun i a q => ?_, fun i a q => ?_, tabs_upd r.tab (.inl hp)⟩, ⟨r.addLe, fun i a q => ?_, fun b x q _ _ => ?_, fun b xs q => by rw [upd_ne (fun z => by rw [z, hp] at q; cases q)]; exact q, fun b o u q => by rw [upd_ne (fun z => by rw [z, hp] at q; cases q)]; exact q⟩⟩
  · rw [AHp.get_add] at q
    by_cases e : i = h.n
    · rw [if_pos e] at q
      cases q
      subst e
      exact ⟨p, Mu.add_same, ro⟩
    · rw [if_neg e] at q
      obtain ⟨a, q1, q2⟩ := r.obj i x q
      exact ⟨a, r.addLe _ _ q1, q2.mono r.addLe (upd_ne (ne i a q1))⟩
  · unfold Mu.add at q1 q2
    split at q1 <;> split at q2
    · omega
    · cases q1; exact absurd q2 (np j)
    · cases q2; exact absurd q1 (np i)
    · exact r.inj i j a q1 q2
  · show i < h.n + 1
    unfold Mu.add at q
    split at q
    · omega
    · have := r.dom i a q; omega
  · unfold Mu.add at q
    split at q
    · cases q; exact ro.some
    · rw [upd_ne (ne i a q)]; exact r.trk i a q
  · unfold Mu.add at q
    split at q
    · cases q; exact .inr (Fr.none hp)
    · exact .inl ⟨i, q⟩
  · rw [upd_ne (fun z => by rw [z, hp] at q; cases q)]; exact q
/-- an object that is not of the image comes -/
theorem Rel.other (r : Rel Γ μ h H) {p : Addr} {u : HO} (hp : H p = none) : Rel Γ μ h (upd H p u) ∧ Ext μ H μ (upd H p u) := by
  have np : ∀ i, μ i ≠ some p := fun i q => r.ne i p q hp
  have ne : ∀ i a, μ i = some a → a ≠ p := fun i a q z => np i (z ▸ q)
  refine ⟨⟨fun i x q => ?_, r.inj, r.dom, fun i a q => ?_, tabs_upd r.tab (.inl hp)⟩, ⟨fun _ _ q => q, fun i _ q => .inl ⟨i, q⟩, fun b x q _ _ => ?_, fun b xs q => by rw [upd_ne (fun z => by rw [z, hp] at q; cases q)]; exact q, fun b o u q => by rw [upd_ne (fun z => by rw [z, hp] at q; cases q)]; exact q⟩⟩
  · obtain ⟨a, q1, q2⟩ := r.obj i x q
    exact ⟨a, q1, q2.mono (fun _ _ q => q) (upd_ne (ne i a q1))⟩
  · rw [upd_ne (ne i a q)]; exact r.trk i a q
  · rw [upd_ne (fun z => by rw [z, hp] at q; cases q)]; exact q
def AO.mut : AO → Bool
  | .lst _ => true
  | .dct _ => true
  | _ => false
/-- an object is written -/
theorem Rel.wr (r : Rel Γ μ h H) {i : Nat} {p : Addr} {o o' : AO} {u : HO} (hi : μ i = some p) (hg : h.get i = some o) (ro : RO Γ.K μ (upd H p u) p o') : Rel Γ μ (h.set i o') (upd H p u) := by
  obtain ⟨a, q1, q2⟩ := r.obj i o hg
  rw [hi] at q1; cases q1
  obtain ⟨w, hw, ntb⟩ := q2.some
  have ne : ∀ j a, j ≠ i → μ j = some a → a ≠ p := fun j a n q z => n (r.inj j i a q (z ▸ hi))
  have nc : ∀ c q, w ≠ LamX.CodeO c q := fun c q z => by
    subst z
    unfold LamX.CodeO at hw
    cases o with
    | lst _ => obtain ⟨_, q3, _⟩ := q2; rw [hw] at q3; cases q3
    | tup _ => obtain ⟨_, q3, _⟩ := q2; rw [hw] at q3; cases q3
    | dct _ => obtain ⟨_, q3, _⟩ := q2; rw [hw] at q3; cases q3
    | dctL _ => obtain ⟨_, _, q3, _⟩ := q2; rw [hw] at q3; cases q3
    | scr _ =>
      obtain ⟨u, q3, z⟩ := q2
      rw [hw] at q3; cases q3
      rcases z with z | ⟨o, z⟩ <;> cases z
  refine ⟨fun j x q => ?_, r.inj, r.dom, fun j a q => ?_, tabs_upd r.tab (.inr ⟨w, hw, ntb, nc⟩)⟩
  · rw [AHp.get_set] at q
    by_cases e : j = i
    · rw [if_pos e] at q
      cases q
      subst e
      exact ⟨p, hi, ro⟩
    · rw [if_neg e] at q
      obtain ⟨a, q1, q3⟩ := r.obj j x q
      exact ⟨a, q1, q3.mono (fun _ _ q => q) (upd_ne (ne j a e q1))⟩
  · by_cases e : a = p
    · rw [e]; exact ro.some
    · rw [upd_ne e]; exact r.trk j a q
theorem Rel.set (r : Rel Γ μ h H) {i : Nat} {p : Addr} {o o' : AO} {u : HO} (hi : μ i = some p) (hg : h.get i = some o) (nt : o.mut = true) (ro : RO Γ.K μ (upd H p u) p o') : Rel Γ μ (h.set i o') (upd H p u) ∧ Ext μ H μ (upd H p u) := by
  obtain ⟨a, q1, q2⟩ := r.obj i o hg
  rw [hi] at q1; cases q1
  have nw : ∀ w, H p = some w → (∀ xs, w ≠ .tup xs) ∧ ∀ o u, w ≠ .frz o u := fun w e => by
    cases o with
    | lst _ => obtain ⟨_, q3, _⟩ := q2; rw [e] at q3; cases q3; exact ⟨(fun _ z => by cases z), (fun _ _ z => by cases z)⟩
    | dct _ => obtain ⟨_, q3, _⟩ := q2; rw [e] at q3; cases q3; exact ⟨(fun _ z => by cases z), (fun _ _ z => by cases z)⟩
    | tup _ => cases nt
    | dctL _ => cases nt
    | scr _ => cases nt
  refine ⟨r.wr hi hg ro, ⟨fun _ _ q => q, fun i _ q => .inl ⟨i, q⟩, fun b x q _ ni => ?_, fun b xs q => ?_, fun b o u q => ?_⟩⟩
  · rw [upd_ne (fun z => ni i (by rw [z]; exact hi))]; exact q
  · rw [upd_ne (fun z => by rw [z] at q; exact (nw _ q).1 _ rfl)]; exact q
  · rw [upd_ne (fun z => by rw [z] at q; exact (nw _ q).2 _ _ rfl)]; exact q
/-- locked, then unlocked -/
theorem Ext.unlock {i : Nat} {p : Addr} {od : Obj} {ws : List (Key × V)} {u : HO} (e : Ext μ (L2.upd H p (.frz od (.dK ws))) μ1 H1) (hi : μ i = some p) (hp : H p = some (.dK ws)) : Ext μ H μ1 (upd H1 p u) where
  le := e.le
  new := fun j a q => by
    rcases e.new j a q with z | z
    · exact .inl z
    · by_cases hb : a = p
      · exact .inl ⟨i, by rw [hb]; exact hi⟩
      · exact .inr fun o ho => z o (by rw [upd_ne hb]; exact ho)
  fr := fun b o q nt ni => by
    have hb : b ≠ p := fun z => ni i (by rw [z]; exact hi)
    rw [upd_ne hb]
    exact e.fr b o (by rw [upd_ne hb]; exact q) nt ni
  tups := fun b xs q => by
    have hb : b ≠ p := fun z => by rw [z, hp] at q; cases q
    rw [upd_ne hb]
    exact e.tups b xs (by rw [upd_ne hb]; exact q)
  frzs := fun b o u q => by
    have hb : b ≠ p := fun z => by rw [z, hp] at q; cases q
    rw [upd_ne hb]
    exact e.frzs b o u (by rw [upd_ne hb]; exact q)

/-- an object that is not of the image is written; seen from a state in which it was not there -/
theorem Rel.adopt (r : Rel Γ μ h H) {D : Addr} {o : AO} (hD : H D ≠ none) (np : ∀ i, μ i ≠ some D) (ro : RO Γ.K (μ.add h.n D) H D o) : Rel Γ (μ.add h.n D) (h.add o) H := by
  refine ⟨fun i x q => ?_, fun i j a q1 q2 => ?_, fun i a q => ?_, fun i a q => ?_, r.tab⟩
  · rw [AHp.get_add] at q
    by_cases e : i = h.n
    · rw [if_pos e] at q
      cases q
      subst e
      exact ⟨D, Mu.add_same, ro⟩
    · rw [if_neg e] at q
      obtain ⟨a, q1, q2⟩ := r.obj i x q
      exact ⟨a, r.addLe _ _ q1, q2.mono r.addLe rfl⟩
  · unfold Mu.add at q1 q2
    split at q1 <;> split at q2
    · omega
    · cases q1; exact absurd q2 (np j)
    · cases q2; exact absurd q1 (np i)
    · exact r.inj i j a q1 q2
  · show i < h.n + 1
    unfold Mu.add at q
    split at q
    · omega
    · have := r.dom i a q; omega
  · unfold Mu.add at q
    split at q
    · cases q; exact ro.some
    · exact r.trk i a q
theorem Rel.outer (r : Rel Γ μ h H) {D : Addr} {u w : HO} (np : ∀ i, μ i ≠ some D) (hD : H D = some w) (nt : ∀ ps, w ≠ .tbl ps) (nc : ∀ c q, w ≠ LamX.CodeO c q) : Rel Γ μ h (upd H D u) := by
  have ne : ∀ i a, μ i = some a → a ≠ D := fun i a q z => np i (z ▸ q)
  refine ⟨fun i x q => ?_, r.inj, r.dom, fun i a q => ?_, tabs_upd r.tab (.inr ⟨w, hD, nt, nc⟩)⟩
  · obtain ⟨a, q1, q2⟩ := r.obj i x q
    exact ⟨a, q1, q2.mono (fun _ _ q => q) (upd_ne (ne i a q1))⟩
  · rw [upd_ne (ne i a q)]; exact r.trk i a q
theorem Ext.outer {D : Addr} {u : HO} (e : Ext μ H μ1 H1) (hD : H D = none) : Ext μ H μ1 (upd H1 D u) where
  le := e.le
  new := e.new
  fr := fun b o q nt ni => by rw [upd_ne (fun z => by rw [z, hD] at q; cases q)]; exact e.fr b o q nt ni
  tups := fun b xs q => by rw [upd_ne (fun z => by rw [z, hD] at q; cases q)]; exact e.tups b xs q
  frzs := fun b o u q => by rw [upd_ne (fun z => by rw [z, hD] at q; cases q)]; exact e.frzs b o u q
theorem Ext.adopt {D : Addr} {n : Nat} (e : Ext μ H μ1 H1) (hn : μ1 n = none) (hD : H D = none) : Ext μ H (μ1.add n D) H1 where
  le := fun i a q => by rw [Mu.add_ne (fun z => by rw [z] at q; rw [e.le _ _ q] at hn; cases hn)]; exact e.le i a q
  new := fun i a q => by
    unfold Mu.add at q
    split at q
    · cases q; exact .inr (Fr.none hD)
    · exact e.new i a q
  fr := e.fr
  tups := e.tups
  frzs := e.frzs
theorem Ext.nim (e : Ext μ H μ1 H1) {D : Addr} (np : ∀ i, μ i ≠ some D) {w : HO} (hD : H D = some w) (nt : ∀ ps, w ≠ .tbl ps) : ∀ i, μ1 i ≠ some D := fun i q => by
  rcases e.new i D q with ⟨j, z⟩ | z
  · exact np j z
  · obtain ⟨ps, e⟩ := z w hD
    exact nt ps e
end

/-! ### outcomes -/
/-- what a result wants of what follows -/
def Out {α β : Type} (Γ : Gm) (W : XK) (μ : Mu) (H : Hp) (r : Rs α) (R : Mu → Hp → α → β → Prop) (Q : β → Hp → Prop) : Prop := match r with
  | .ok v h1 => ∀ μ1 H1 x, Ext μ H μ1 H1 → Rel Γ μ1 h1 H1 → R μ1 H1 v x → Q x H1
  | .ex c fs h1 => ∀ μ1 H1 d ws, Ext μ H μ1 H1 → Rel Γ μ1 h1 H1 → H1 d = some (.xd ws) → RF Γ μ1 fs ws → W (.ref (Γ.nmC c)) (some d) H1
  | .no => False
section
variable {Γ : Gm} {W : XK} {μ μ0 μ1 : Mu} {h h1 : AHp} {H H0 H1 : Hp} {α β γ δ : Type}
theorem Out.bind {r : Rs α} {f : α → AHp → Rs γ} {RA : Mu → Hp → α → β → Prop} {RB : Mu → Hp → γ → δ → Prop} {Q : δ → Hp → Prop} (o : Out Γ W μ0 H0 (r.bind f) RB Q) (e0 : Ext μ0 H0 μ H) :
    Out Γ W μ H r RA (fun x H1 => ∃ μ1 h1 v, r = .ok v h1 ∧ Ext μ H μ1 H1 ∧ Rel Γ μ1 h1 H1 ∧ RA μ1 H1 v x ∧ Out Γ W μ0 H0 (f v h1) RB Q) := by
  cases r with
  | ok v h1 => exact fun μ1 H1 x e rl ra => ⟨μ1, h1, v, rfl, e, rl, ra, o⟩
  | ex c fs h1 => exact fun μ1 H1 d ws e r1 => o μ1 H1 d ws (e0.trans e) r1
  | no => exact o
theorem Out.imp {r : Rs α} {R : Mu → Hp → α → β → Prop} {Q Q' : β → Hp → Prop} (o : Out Γ W μ H r R Q) (f : ∀ x H, Q x H → Q' x H) : Out Γ W μ H r R Q' := by
  cases r with
  | ok v h1 => exact fun μ1 H1 x e r1 rv => f _ _ (o μ1 H1 x e r1 rv)
  | ex c fs h1 => exact o
  | no => exact o
theorem Out.shift {r : Rs α} {R : Mu → Hp → α → β → Prop} {Q : β → Hp → Prop} (o : Out Γ W μ H r R Q) (e : Ext μ H μ1 H1) : Out Γ W μ1 H1 r R Q := by
  cases r with
  | ok v h1 => exact fun μ2 H2 x e2 r1 rv => o μ2 H2 x (e.trans e2) r1 rv
  | ex c fs h1 => exact fun μ2 H2 d ws e2 r1 => o μ2 H2 d ws (e.trans e2) r1
  | no => exact o
abbrev RVh : Mu → Hp → AV → V → Prop := fun μ _ => RV μ
/-- it is here -/
theorem Out.here {v : α} {R : Mu → Hp → α → β → Prop} {Q : β → Hp → Prop} {x : β} (o : Out Γ W μ H (.ok v h) R Q) (r : Rel Γ μ h H) (rv : R μ H v x) : Q x H := o μ H x (.refl μ H) r rv
/-- .. with a new object -/
theorem Out.new {μ : Mu} {o : AO} {u : HO} {p : Addr} {Q : V → Hp → Prop} (q : Out Γ W μ H (.ok (.ref h.n) (h.add o)) RVh Q) (r : Rel Γ μ h H) (hp : H p = none) (ro : RO Γ.K (μ.add h.n p) (upd H p u) p o) : Q (.ref p) (upd H p u) :=
  let ⟨r1, e1⟩ := r.add hp ro
  q _ _ _ e1 r1 ⟨p, Mu.add_same, rfl⟩
end
def RB (_ : Mu) (_ : Hp) (a b : Bool) : Prop := a = b
abbrev RVsh : Mu → Hp → List AV → List V → Prop := fun μ _ => RVs μ
def tE (Γ : Gm) (W : XK) (C : Cf) (e : E) : TE := fun σ H Q => ∃ μ h σa, Rel Γ μ h H ∧ RS μ σa σ ∧ Out Γ W μ H (evE C e σa h) RVh Q
def tT (Γ : Gm) (W : XK) (C : Cf) (e : E) : TT := fun σ H Q => ∃ μ h σa, Rel Γ μ h H ∧ RS μ σa σ ∧ Out Γ W μ H (truthR (evE C e σa h)) RB Q
def tL (Γ : Gm) (W : XK) (C : Cf) (e : L) : TA := fun σ H Q => ∃ μ h σa, Rel Γ μ h H ∧ RS μ σa σ ∧ Out Γ W μ H (evL C e σa h) RVsh Q
theorem PE.imp {X : Cx} {e : Expr} {t t' : TE} (p : PE X e t) (f : ∀ σ H Q, t' σ H Q → t σ H Q) : PE X e t' := ⟨fun pins s σ H Q I h => p.run pins s σ H Q I (f σ H Q h)⟩
theorem PT.imp {X : Cx} {e : Expr} {t t' : TT} (p : PT X e t) (f : ∀ σ H Q, t' σ H Q → t σ H Q) : PT X e t' := ⟨fun pins s σ H Q I h => p.run pins s σ H Q I (f σ H Q h)⟩
theorem PA.imp {X : Cx} {e : List Expr} {t t' : TA} (p : PA X e t) (f : ∀ σ H Q, t' σ H Q → t σ H Q) : PA X e t' := ⟨fun pos pins s σ H Q I h => p.run pos pins s σ H Q I (f σ H Q h)⟩
theorem PS.imp {X : Cx} {e : Stmt} {t t' : TS} (p : PS X e t) (f : ∀ D σ H, t' D σ H → t D σ H) : PS X e t' := ⟨fun pins s σ H Q I h => p.run pins s σ H Q I (f Q σ H h)⟩
theorem PSs.imp {X : Cx} {e : List Stmt} {t t' : TS} (p : PSs X e t) (f : ∀ D σ H, t' D σ H → t D σ H) : PSs X e t' := ⟨fun pins s σ H Q I h => p.run pins s σ H Q I (f Q σ H h)⟩
theorem PE.or {X : Cx} {e : Expr} {t t' : TE} (p : PE X e t) (p' : PE X e t') : PE X e (fun σ H Q => t σ H Q ∨ t' σ H Q) := ⟨fun pins s σ H Q I h => h.elim (p.run pins s σ H Q I) (p'.run pins s σ H Q I)⟩
theorem PI.or {X : Cx} {g e : Expr} {t t' : TI} (p : PI X g e t) (p' : PI X g e t') : PI X g e (fun σ H Q => t σ H Q ∨ t' σ H Q) := ⟨fun pins s σ H Q I h => h.elim (p.run pins s σ H Q I) (p'.run pins s σ H Q I)⟩
end AH

set_option Elab.async false
set_option linter.all false
set_option maxRecDepth 100000
set_option maxHeartbeats 4000000
/-! AH3: operations by values. -/
namespace AH
open PySem PySem.Spec L2
theorem sz_eq : (sizeLine : Nat) = 16777216 := sizeLine_eq
theorem isz_le {n : Nat} (h : isz n = true) : n ≤ sizeLine := by rw [sz_eq]; exact Nat.le_of_ble_eq_true h
theorem blt_lt {n : Nat} (h : Nat.blt n 16777216 = true) : n < sizeLine := by rw [sz_eq]; exact Nat.le_of_ble_eq_true h
theorem strEq_ok (x y : Str) : strEq x y = decide (x = y) := by
  unfold strEq
  by_cases h : x = y
  · subst h; simp
  · rw [decide_eq_false h]
    rw [beq_eq_false_iff_ne]
    intro e
    apply h
    obtain ⟨⟨a⟩⟩ := x
    obtain ⟨⟨b⟩⟩ := y
    simp only at e
    rw [e]
theorem keyEq_ok (a b : Key) : keyEq a b = decide (a = b) := by
  cases a with
  | inl i => cases b with
    | inl j => simp only [keyEq]; rw [key_ll]
    | inr y => simp only [keyEq]; rw [key_lr]
  | inr x => cases b with
    | inl j => simp only [keyEq]; rw [key_rl]
    | inr y => simp only [keyEq]; rw [key_rr, strEq_ok]
theorem strOk_of {x : Str} (h : x.cps.toList.all (fun c => Nat.blt c 1114112) = true) : PyData.strOk x = true := by
  unfold PyData.strOk
  rw [← Array.all_toList]
  rw [List.all_eq_true] at h ⊢
  intro c hc
  have := Nat.le_of_ble_eq_true (h c hc)
  simp only [decide_eq_true_eq]
  omega
section
variable {Γ : Gm} {W : XK} {μ μ1 : Mu} {h h1 : AHp} {H H1 : Hp} {X : Cx}
theorem Rel.lst (r : Rel Γ μ h H) {n : Nat} {xs : List AV} {x : V} (rv : RV μ (.ref n) x) (g : h.get n = some (.lst xs)) : ∃ a vs, x = .ref a ∧ μ n = some a ∧ H a = some (.lst vs) ∧ RVs μ xs vs := by
  obtain ⟨a, h1, h2⟩ := rv
  obtain ⟨b, q1, vs, q2, q3⟩ := r.obj n _ g
  rw [h1] at q1; cases q1
  exact ⟨a, vs, h2, h1, q2, q3⟩
theorem Rel.tup (r : Rel Γ μ h H) {n : Nat} {xs : List AV} {x : V} (rv : RV μ (.ref n) x) (g : h.get n = some (.tup xs)) : ∃ a vs, x = .ref a ∧ μ n = some a ∧ H a = some (.tup vs) ∧ RVs μ xs vs := by
  obtain ⟨a, h1, h2⟩ := rv
  obtain ⟨b, q1, vs, q2, q3⟩ := r.obj n _ g
  rw [h1] at q1; cases q1
  exact ⟨a, vs, h2, h1, q2, q3⟩
theorem Rel.dct (r : Rel Γ μ h H) {n : Nat} {xs : List (Key × AV)} {x : V} (rv : RV μ (.ref n) x) (g : h.get n = some (.dct xs)) : ∃ a vs, x = .ref a ∧ μ n = some a ∧ H a = some (.dK vs) ∧ RKV μ xs vs := by
  obtain ⟨a, h1, h2⟩ := rv
  obtain ⟨b, q1, vs, q2, q3⟩ := r.obj n _ g
  rw [h1] at q1; cases q1
  exact ⟨a, vs, h2, h1, q2, q3⟩
theorem Rel.dctL (r : Rel Γ μ h H) {n : Nat} {xs : List (Key × AV)} {x : V} (rv : RV μ (.ref n) x) (g : h.get n = some (.dctL xs)) : ∃ a o vs, x = .ref a ∧ μ n = some a ∧ H a = some (.frz o (.dK vs)) ∧ RKV μ xs vs := by
  obtain ⟨a, h1, h2⟩ := rv
  obtain ⟨b, q1, o, vs, q2, q3⟩ := r.obj n _ g
  rw [h1] at q1; cases q1
  exact ⟨a, o, vs, h2, h1, q2, q3⟩
theorem Rel.scr (r : Rel Γ μ h H) {n : Nat} {xs : List Int} {x : V} (rv : RV μ (.ref n) x) (g : h.get n = some (.scr xs)) : ∃ a, x = .ref a ∧ μ n = some a ∧ Rd H a (.lst (xs.map V.int)) := by
  obtain ⟨a, h1, h2⟩ := rv
  obtain ⟨b, q1, u, q2, q3⟩ := r.obj n _ g
  rw [h1] at q1; cases q1
  refine ⟨a, h2, h1, ?_⟩
  rcases q3 with rfl | ⟨o, rfl⟩
  · exact .inl q2
  · exact .inr ⟨o, q2⟩
/-- the data that are read are the layer's -/
theorem rdAll_len {f : AV → Option PyData} : ∀ {xs : List AV} {ds : List PyData}, rdAll f xs = some ds → xs.length = ds.length
  | [], ds, e => by cases e; rfl
  | v :: r, ds, e => by
    unfold rdAll at e
    split at e
    · split at e
      · cases e
        rename_i q
        simp [rdAll_len q]
      · cases e
    · cases e
theorem rd_dp (r : Rel Γ μ h H) : ∀ (n : Nat) (v : AV) (x : V) (d : PyData), RV μ v x → rd h n v = some d → Dp Γ.K H x d ∧ d.canLay0 = true ∧ d.depth ≤ n := by
  intro n
  induction n with
  | zero =>
    intro v x d rv e
    cases v with
    | non => unfold rd at e; cases e; obtain rfl := rv; exact ⟨.non, by simp [PyData.canLay0], by simp [PyData.depth]⟩
    | bl b => unfold rd at e; cases e; obtain rfl := rv; exact ⟨.bl _, by simp [PyData.canLay0], by simp [PyData.depth]⟩
    | int b => unfold rd at e; cases e; obtain rfl := rv; exact ⟨.int _, by simp [PyData.canLay0], by simp [PyData.depth]⟩
    | str b =>
      unfold rd at e
      split at e
      · rename_i q
        cases e; obtain rfl := rv; exact ⟨.str _, by simp only [PyData.canLay0]; exact strOk_of q, by simp [PyData.depth]⟩
      · cases e
    | ref m => unfold rd at e; cases e
  | succ n ih =>
    have all : ∀ (xs : List AV) (vs : List V) (ds : List PyData), RVs μ xs vs → rdAll (rd h n) xs = some ds → DpAll Γ.K H vs ds ∧ PyData.canLayAll0 ds = true ∧ PyData.depthAll ds ≤ n := by
      intro xs
      induction xs with
      | nil => intro vs ds rv e; cases rv; cases e; exact ⟨.nil, by simp [PyData.canLayAll0], by simp [PyData.depthAll]⟩
      | cons v xs ih2 =>
        intro vs ds rv e
        cases rv with
        | cons r1 r2 =>
          unfold rdAll at e
          split at e
          · rename_i d1 q1
            split at e
            · rename_i ds1 q2
              cases e
              obtain ⟨a1, a2, a3⟩ := ih _ _ _ r1 q1
              obtain ⟨b1, b2, b3⟩ := ih2 _ _ r2 q2
              refine ⟨.cons a1 b1, by simp [PyData.canLayAll0, a2, b2], ?_⟩
              simp only [PyData.depthAll]; omega
            · cases e
          · cases e
    intro v x d rv e
    cases v with
    | non => unfold rd at e; cases e; obtain rfl := rv; exact ⟨.non, by simp [PyData.canLay0], by simp [PyData.depth]⟩
    | bl b => unfold rd at e; cases e; obtain rfl := rv; exact ⟨.bl _, by simp [PyData.canLay0], by simp [PyData.depth]⟩
    | int b => unfold rd at e; cases e; obtain rfl := rv; exact ⟨.int _, by simp [PyData.canLay0], by simp [PyData.depth]⟩
    | str b =>
      unfold rd at e
      split at e
      · rename_i q
        cases e; obtain rfl := rv; exact ⟨.str _, by simp only [PyData.canLay0]; exact strOk_of q, by simp [PyData.depth]⟩
      · cases e
    | ref m =>
      unfold rd at e
      split at e
      · rename_i xs g
        obtain ⟨a, vs, rfl, _, q2, q3⟩ := r.lst rv g
        cases q : rdAll (rd h n) xs with
        | none => rw [q] at e; cases e
        | some ds =>
          rw [q] at e; cases e
          obtain ⟨b1, b2, b3⟩ := all xs vs ds q3 q
          exact ⟨.lst (SqL.of q2) b1, by simp only [PyData.canLay0]; exact b2, by simp only [PyData.depth]; omega⟩
      · rename_i xs g
        obtain ⟨a, vs, rfl, _, q2, q3⟩ := r.tup rv g
        cases q : rdAll (rd h n) xs with
        | none => rw [q] at e; cases e
        | some ds =>
          rw [q] at e; cases e
          obtain ⟨b1, b2, b3⟩ := all xs vs ds q3 q
          exact ⟨.tup (SqT.of q2) b1, by simp only [PyData.canLay0]; exact b2, by simp only [PyData.depth]; omega⟩
      · cases e
theorem rdAll_dp (r : Rel Γ μ h H) (n : Nat) : ∀ {xs : List AV} {vs : List V} {ds : List PyData}, RVs μ xs vs → rdAll (rd h n) xs = some ds → DpAll Γ.K H vs ds
  | [], _, _, rv, e => by cases rv; cases e; exact .nil
  | v :: xs, _, _, rv, e => by
    cases rv with
    | cons r1 r2 =>
      unfold rdAll at e
      split at e
      · rename_i d1 q1
        split at e
        · rename_i ds1 q2
          cases e
          exact .cons (rd_dp r n _ _ _ r1 q1).1 (rdAll_dp r n r2 q2)
        · cases e
      · cases e
mutual
theorem eqd_ok : ∀ d e : PyData, eqd d e = PyData.eqv d e := fun d e => by
  cases d with
  | none => cases e <;> simp [eqd, PyData.eqv]
  | bool a => cases e <;> simp [eqd, PyData.eqv]
  | int i => cases e <;> simp [eqd, PyData.eqv]
  | str x =>
    cases e <;> simp [eqd, PyData.eqv]
    rw [strEq_ok]; rw [Bool.beq_eq_decide_eq]
  | list xs =>
    cases e <;> simp [eqd, PyData.eqv]
    exact eqdAll_ok xs _
  | tuple xs =>
    cases e <;> simp [eqd, PyData.eqv]
    exact eqdAll_ok xs _
  | dict xs => cases e <;> simp [eqd, PyData.eqv]
theorem eqdAll_ok : ∀ d e : List PyData, eqdAll d e = PyData.eqvAll d e := fun d e => by
  cases d with
  | nil => cases e <;> simp [eqdAll, PyData.eqvAll]
  | cons x xs =>
    cases e with
    | nil => simp [eqdAll, PyData.eqvAll]
    | cons y ys => simp only [eqdAll, PyData.eqvAll]; rw [eqd_ok x y, eqdAll_ok xs ys]
end
theorem shaped_of {d : PyData} (a : d.canLay0 = true) (b : d.depth ≤ 40) : SeqAt.shaped d = true := by
  unfold SeqAt.shaped
  rw [a]
  simp only [Bool.true_and, decide_eq_true_eq]
  omega
/-! ### truth -/
theorem truth_ok (r : Rel Γ μ h H) {v : AV} {x : V} {b : Bool} (rv : RV μ v x) (e : truth h v = some b) : TruV Γ.K x H b := by
  cases v with
  | non => obtain rfl := rv; cases e; rfl
  | bl b => obtain rfl := rv; cases e; rfl
  | int b => obtain rfl := rv; cases e; rfl
  | str z =>
    obtain rfl := rv
    simp only [truth] at e
    split at e
    · rename_i q
      cases e
      refine ⟨isz_le q, ?_⟩
      obtain ⟨⟨l⟩⟩ := z
      cases l with
      | nil => rfl
      | cons c l =>
        symm
        simp [Str.length]
        omega
    · cases e
  | ref n =>
    simp only [truth] at e
    split at e
    · rename_i xs g
      obtain ⟨a, vs, rfl, _, q2, q3⟩ := r.lst rv g
      cases e
      exact .inl ⟨vs, SqL.of q2, by rw [Pd.emp q3]⟩
    · rename_i xs g
      obtain ⟨a, vs, rfl, _, q2, q3⟩ := r.tup rv g
      cases e
      exact .inr (.inl ⟨vs, SqT.of q2, by rw [Pd.emp q3]⟩)
    · rename_i xs g
      obtain ⟨a, vs, rfl, _, q2, q3⟩ := r.dct rv g
      cases e
      exact .inr (.inr ⟨vs, q2, by rw [Pd.emp q3]⟩)
    · cases e
/-! ### two-place operations -/
def rBin (K : PySem.W.Frag) : BOp → R2
  | .add => fun x y H Q => rI0 (fun i j => .int (i + j)) x y H Q ∨ (∃ i j, x = .str i ∧ y = .str j ∧ i.length + j.length ≤ sizeLine ∧ Q (.str (i ++ j)) H) ∨ rCat x y H Q ∨ rCatA K x y H Q
  | .sub => rI0 fun i j => .int (i - j)
  | .mul => fun x y H Q => rI CMul (fun i j => .int (i * j)) x y H Q ∨ rRep x y H Q
  | .fdiv => rI CDiv fun i j => .int (i / j)
  | .mod => rI (fun _ j => 0 < j) fun i j => .int (i % j)
  | .pow => rI CPow fun i j => .int (i ^ j.toNat)
  | .xor => rI0 fun i j => .int (Builtin.bitXor i j)
def opOf : BOp → Operator
  | .add => .Add | .sub => .Sub | .mul => .Mult | .fdiv => .FloorDiv | .mod => .Mod | .pow => .Pow | .xor => .BitXor
theorem rBin_ok (o : BOp) : OpR X (binaryOp (opOf o)) (rBin X.K o) := by
  cases o with
  | add => exact OpR.or op_add (OpR.or op_add_str (OpR.or op_cat op_catA))
  | sub => exact op_sub
  | mul => exact OpR.or op_mul op_rep
  | fdiv => exact op_fdiv
  | mod => exact op_mod
  | pow => exact op_pow
  | xor => exact op_xor
theorem small_of {i : Int} (h : small64 i = true) : -(2 ^ 64) < i ∧ i < 2 ^ 64 := by
  unfold small64 at h
  simp only [Bool.and_eq_true, decide_eq_true_eq] at h
  omega
theorem bin_ok (r : Rel Γ μ h H) {o : BOp} {v w : AV} {x y : V} {Q : V → Hp → Prop} (rv : RV μ v x) (rw : RV μ w y) (q : Out Γ W μ H (binA o h v w) RVh Q) : rBin Γ.K o x y H Q := by
  unfold binA at q
  split at q
  · obtain rfl := rv; obtain rfl := rw; exact .inl ⟨_, _, rfl, rfl, q.here r rfl⟩
  · obtain rfl := rv; obtain rfl := rw; exact ⟨_, _, rfl, rfl, q.here r rfl⟩
  · obtain rfl := rv; obtain rfl := rw
    split at q
    · rename_i c
      refine .inl ⟨_, _, rfl, rfl, ?_, q.here r rfl⟩
      rw [Bool.or_eq_true] at c
      exact c.elim (fun c => .inl (small_of c)) (fun c => .inr (small_of c))
    · exact q.elim
  · obtain rfl := rw
    split at q
    · rename_i xs g
      obtain ⟨a, vs, rfl, hm, q2, q3⟩ := r.lst rv g
      split at q
      · rename_i c
        simp only [Bool.and_eq_true, decide_eq_true_eq] at c
        have hl := Pd.length q3
        refine .inr ⟨a, _, vs, rfl, rfl, q2, by omega, by omega, by rw [← hl]; exact isz_le c.1.1, fun p hp => ?_⟩
        exact q.new r hp ⟨_, upd_same, Pd.flat _ (q3.mono r.addLe)⟩
      · exact q.elim
    · exact q.elim
  · obtain rfl := rv; obtain rfl := rw
    split at q
    · rename_i c
      simp only [Bool.and_eq_true, decide_eq_true_eq] at c
      exact ⟨_, _, rfl, rfl, c, q.here r rfl⟩
    · exact q.elim
  · obtain rfl := rv; obtain rfl := rw
    split at q
    · rename_i c
      simp only [decide_eq_true_eq] at c
      exact ⟨_, _, rfl, rfl, c, q.here r rfl⟩
    · exact q.elim
  · obtain rfl := rv; obtain rfl := rw
    split at q
    · rename_i c
      simp only [Bool.and_eq_true, decide_eq_true_eq] at c
      refine ⟨_, _, rfl, rfl, ⟨c.1.1, c.1.2, ?_⟩, q.here r rfl⟩
      have := c.2
      omega
    · exact q.elim
  · obtain rfl := rv; obtain rfl := rw; exact ⟨_, _, rfl, rfl, q.here r rfl⟩
  · obtain rfl := rv; obtain rfl := rw
    split at q
    · rename_i c
      exact .inr (.inl ⟨_, _, rfl, rfl, isz_le c, q.here r rfl⟩)
    · exact q.elim
  · split at q
    · rename_i xs ys g1 g2
      obtain ⟨a, vs, rfl, hm, q2, q3⟩ := r.lst rv g1
      obtain ⟨b, ws, rfl, hm', q2', q3'⟩ := r.lst rw g2
      split at q
      · rename_i c
        refine .inr (.inr (.inl ⟨a, b, vs, ws, rfl, rfl, q2, q2', by rw [← Pd.length q3, ← Pd.length q3']; exact isz_le c, fun p hp => ?_⟩))
        exact q.new r hp ⟨_, upd_same, Pd.append (q3.mono r.addLe) (q3'.mono r.addLe)⟩
      · exact q.elim
    · rename_i xs ys g1 g2
      obtain ⟨a, vs, ex, hm, q2, q3⟩ := r.tup rv g1
      obtain ⟨b, ws, ey, hm', q2', q3'⟩ := r.tup rw g2
      split at q
      · rename_i c
        have hz : vs.length + ws.length ≤ sizeLine := by rw [← Pd.length q3, ← Pd.length q3']; exact isz_le c
        refine .inr (.inr (.inr ⟨a, b, vs, ws, ex, ey, SqT.of q2, SqT.of q2', hz, fun e => ?_, fun e1 e2 => ?_, fun e1 e2 p hp => ?_⟩))
        · have z : xs.isEmpty = true := by rw [Pd.emp q3, e]; rfl
          rw [if_pos z] at q
          exact q.here r ⟨b, hm', rfl⟩
        · have z : ¬ xs.isEmpty = true := by rw [Pd.emp q3]; simpa using e1
          have z' : ys.isEmpty = true := by rw [Pd.emp q3', e2]; rfl
          rw [if_neg z, if_pos z'] at q
          exact q.here r ⟨a, hm, rfl⟩
        · have z : ¬ xs.isEmpty = true := by rw [Pd.emp q3]; simpa using e1
          have z' : ¬ ys.isEmpty = true := by rw [Pd.emp q3']; simpa using e2
          rw [if_neg z, if_neg z'] at q
          exact q.new r hp ⟨_, upd_same, Pd.append (q3.mono r.addLe) (q3'.mono r.addLe)⟩
      · exact q.elim
    · exact q.elim
  · exact q.elim
end
end AH

set_option Elab.async false
set_option linter.all false
set_option maxRecDepth 100000
set_option maxHeartbeats 4000000
/-! AH4: comparisons, items, slices, isinstance. -/
namespace AH
open PySem PySem.Spec L2
section
variable {Γ : Gm} {W : XK} {μ μ1 : Mu} {h h1 : AHp} {H H1 : Hp} {X : Cx}
/-! ### dicts -/
theorem valA_ok {μ : Mu} (k : Key) : ∀ {kvs : List (Key × AV)} {ws : List (Key × V)}, RKV μ kvs ws → (∀ v, valA k kvs = some v → ∃ x, valV ws k = some x ∧ RV μ v x) ∧ (valA k kvs = none → valV ws k = none)
  | _, _, .nil => ⟨(fun v e => by cases e), fun _ => rfl⟩
  | p :: r, q :: s, .cons ⟨e1, e2⟩ t => by
    have ih := valA_ok k t
    unfold valA
    rw [keyEq_ok]
    by_cases c : p.1 = k
    · rw [decide_eq_true c]
      simp only [if_true]
      rw [valV_pos (e1.symm.trans c)]
      exact ⟨(fun v e => ⟨q.2, rfl, by cases e; exact e2⟩), (fun e => by cases e)⟩
    · rw [decide_eq_false c]
      simp only [Bool.false_eq_true, if_false]
      rw [valV_neg (fun z => c (e1.trans z))]
      exact ih
theorem valA_some (k : Key) {μ : Mu} {kvs : List (Key × AV)} {ws : List (Key × V)} (r : RKV μ kvs ws) : (valA k kvs).isSome = (valV ws k).isSome := by
  obtain ⟨a, b⟩ := valA_ok k r
  cases e : valA k kvs with
  | none => rw [b e]; rfl
  | some v => obtain ⟨x, h1, _⟩ := a v e; rw [h1]; rfl
theorem any_ok (k : Key) {μ : Mu} : ∀ {kvs : List (Key × AV)} {ws : List (Key × V)}, RKV μ kvs ws → (kvs.any fun p => keyEq p.1 k) = ws.any fun p => decide (p.1 = k)
  | _, _, .nil => rfl
  | p :: r, q :: s, .cons ⟨e1, e2⟩ t => by rw [List.any_cons, List.any_cons, keyEq_ok, e1, any_ok k t]
theorem repl_ok (k : Key) {μ : Mu} {v : AV} {x : V} (rv : RV μ v x) : ∀ {kvs : List (Key × AV)} {ws : List (Key × V)}, RKV μ kvs ws →
    RKV μ (kvs.map fun p => if keyEq p.1 k then (p.1, v) else p) (ws.map fun kv => if kv.1 = k then (kv.1, x) else kv)
  | _, _, .nil => .nil
  | p :: r, q :: s, .cons ⟨e1, e2⟩ t => by
    refine .cons ?_ (repl_ok k rv t)
    show (if keyEq p.1 k = true then (p.1, v) else p).1 = (if q.1 = k then (q.1, x) else q).1 ∧ RV μ (if keyEq p.1 k = true then (p.1, v) else p).2 (if q.1 = k then (q.1, x) else q).2
    rw [keyEq_ok, e1]
    by_cases c : q.1 = k
    · rw [if_pos (decide_eq_true c), if_pos c]; exact ⟨rfl, rv⟩
    · rw [if_neg (by rw [decide_eq_false c]; simp), if_neg c]; exact ⟨e1, e2⟩
theorem putA_ok (k : Key) {μ : Mu} {v : AV} {x : V} (rv : RV μ v x) {kvs : List (Key × AV)} {ws : List (Key × V)} (r : RKV μ kvs ws) : RKV μ (putA k v kvs) (putK ws k x) := by
  unfold putA putK
  rw [any_ok k r]
  split
  · exact repl_ok k rv r
  · exact Pd.append r (.cons ⟨rfl, rv⟩ .nil)
theorem keyOf_ok {v : AV} {k : Key} {μ : Mu} {x : V} (e : keyOf v = some k) (r : RV μ v x) : x = kV k := by
  cases v with
  | int i => cases e; obtain rfl := r; rfl
  | str i => cases e; obtain rfl := r; rfl
  | non => cases e
  | bl _ => cases e
  | ref _ => cases e
/-! ### comparisons -/
def rDIn (neg : Bool) : R2 := fun y x H Q => ∃ a o, x = .ref a ∧ DGet H a y o ∧ Q (.bl (if neg then !o.isSome else o.isSome)) H
theorem op_din (hu : X.A.units + 1 < cLine) : OpR X (compareOp .In) (rDIn false) := by
  intro pins s σ H y x u v Q I ry rx h
  obtain ⟨a, o, rfl, g, q⟩ := h
  cases rx
  exact d_in hu I g ry fun s' I' => ⟨.bl _, H, I', rfl, q⟩
theorem op_dnotin (hu : X.A.units + 1 < cLine) : OpR X (compareOp .NotIn) (rDIn true) := by
  intro pins s σ H y x u v Q I ry rx h
  obtain ⟨a, o, rfl, g, q⟩ := h
  cases rx
  exact d_notIn hu I g ry fun s' I' => ⟨.bl _, H, I', rfl, q⟩
def rSign (neg : Bool) : R2 := fun x y H Q => ∃ (c : Nat) (z : Str), x = .str ⟨#[c]⟩ ∧ y = .str z ∧ Q (.bl (if neg then !decide (c ∈ z.cps.toList) else decide (c ∈ z.cps.toList))) H
def cOf : COp → CmpOp
  | .eq => .Eq | .ne => .NotEq | .lt => .Lt | .le => .LtE | .gt => .Gt | .ge => .GtE | .isin => .In | .notin => .NotIn | .is => .Is | .isnot => .IsNot
def rCmp (K : PySem.W.Frag) : COp → R2
  | .eq => rEqD K
  | .ne => rNeD K
  | .lt => fun x y H Q => rI0 (fun i j => .bl (decide (i < j))) x y H Q ∨ ∃ i j, x = .str i ∧ y = .str j ∧ Q (.bl (decide (i.cps.toList < j.cps.toList))) H
  | .le => rI0 fun i j => .bl (decide (i ≤ j))
  | .gt => rI0 fun i j => .bl (decide (j < i))
  | .ge => rI0 fun i j => .bl (decide (j ≤ i))
  | .isin => fun x y H Q => rInD K x y H Q ∨ rIn K false x y H Q ∨ rSign false x y H Q ∨ rDIn false x y H Q
  | .notin => fun x y H Q => rNotInD K x y H Q ∨ rIn K true x y H Q ∨ rSign true x y H Q ∨ rDIn true x y H Q
  | .is => fun x y H Q => y = .non ∧ Q (.bl (decide (x = .non))) H
  | .isnot => fun x y H Q => y = .non ∧ Q (.bl (!decide (x = .non))) H
theorem rCmp_ok {k : Nat} (hr : Room k X.A) (o : COp) : OpR X (compareOp (cOf o)) (rCmp X.K o) := by
  have h0 := hr.un
  cases o with
  | eq => exact op_eqD (by omega)
  | ne => exact op_neD (by omega)
  | lt => exact OpR.or op_lt op_lt_str
  | le => exact op_le
  | gt => exact op_gt
  | ge => exact op_ge
  | isin => exact OpR.or (op_inD (by omega)) (OpR.or op_in_seq (OpR.or op_in_sign (op_din (by omega))))
  | notin => exact OpR.or (op_notInD (by omega)) (OpR.or op_notIn_seq (OpR.or op_notIn_sign (op_dnotin (by omega))))
  | is => exact op_isN
  | isnot => exact op_notN
theorem eqv_ok (r : Rel Γ μ h H) {v w : AV} {x y : V} {b : Bool} (rv : RV μ v x) (rw : RV μ w y) (e : eqv h v w = some b) : ∃ d d', Dp Γ.K H x d ∧ Dp Γ.K H y d' ∧ SeqAt.shaped d = true ∧ SeqAt.shaped d' = true ∧ b = PyData.eqv d d' := by
  unfold eqv at e
  split at e
  · rename_i d d' q1 q2
    obtain ⟨a1, a2, a3⟩ := rd_dp r 40 v x d rv q1
    obtain ⟨b1, b2, b3⟩ := rd_dp r 40 w y d' rw q2
    cases e
    exact ⟨d, d', a1, b1, shaped_of a2 a3, shaped_of b2 b3, eqd_ok d d'⟩
  · cases e
theorem flat_ok {v : AV} {x : V} (f : flatA v = true) (r : RV μ v x) : flatV x = true := by
  cases v with
  | ref _ => cases f
  | non => obtain rfl := r; rfl
  | bl _ => obtain rfl := r; rfl
  | int _ => obtain rfl := r; rfl
  | str _ => obtain rfl := r; rfl
theorem flats_ok : ∀ {vs : List AV} {xs : List V}, vs.all flatA = true → RVs μ vs xs → xs.all flatV = true
  | _, _, _, .nil => rfl
  | _, _, f, .cons r t => by
    simp only [List.all_cons, Bool.and_eq_true] at f ⊢
    exact ⟨flat_ok f.1 r, flats_ok f.2 t⟩
theorem eqV_dp {K : PySem.W.Frag} {x y : V} {d e : PyData} (fx : flatV x = true) (fy : flatV y = true) (hx : Dp K H x d) (hy : Dp K H y e) : eqV x y = PyData.eqv d e := by
  cases hx with
  | lst _ _ => cases fx
  | tup _ _ => cases fx
  | non => cases hy with
    | lst _ _ => cases fy
    | tup _ _ => cases fy
    | _ => simp [eqV, PyData.eqv]
  | bl _ => cases hy with
    | lst _ _ => cases fy
    | tup _ _ => cases fy
    | _ => simp [eqV, PyData.eqv]
  | int _ => cases hy with
    | lst _ _ => cases fy
    | tup _ _ => cases fy
    | _ => simp [eqV, PyData.eqv]
  | str _ => cases hy with
    | lst _ _ => cases fy
    | tup _ _ => cases fy
    | _ => simp [eqV, PyData.eqv]
theorem inV_dp {K : PySem.W.Frag} {x : V} {d : PyData} (fx : flatV x = true) (hx : Dp K H x d) : ∀ {xs : List V} {ds : List PyData}, xs.all flatV = true → DpAll K H xs ds → inV x xs = ds.any fun z => PyData.eqv z d
  | _, _, _, .nil => rfl
  | _, _, f, .cons a t => by
    simp only [List.all_cons, Bool.and_eq_true] at f
    have ih := inV_dp fx hx f.2 t
    unfold inV at ih ⊢
    rw [List.any_cons, List.any_cons, ih, eqV_dp f.1 fx a hx]
theorem mem_ok (r : Rel Γ μ h H) {v w : AV} {x y : V} {b : Bool} (rv : RV μ v x) (rw : RV μ w y) (e : memV h v w = some b) :
    (∃ d ds, Dp Γ.K H x d ∧ Dp Γ.K H y (.list ds) ∧ SeqAt.shaped d = true ∧ SeqAt.shaped (.list ds) = true ∧ b = ds.any fun z => PyData.eqv z d) ∨
    (∃ p xs, y = .ref p ∧ (SqL Γ.K H p xs ∨ SqT Γ.K H p xs) ∧ flatV x = true ∧ xs.all flatV = true ∧ b = inV x xs) ∨
    (∃ (c : Nat) (z : Str), x = .str ⟨#[c]⟩ ∧ y = .str z ∧ b = decide (c ∈ z.cps.toList)) ∨ ∃ a o, y = .ref a ∧ DGet H a x o ∧ b = o.isSome := by
  cases w with
  | non => cases e
  | bl _ => cases e
  | int _ => cases e
  | str z =>
    obtain rfl := rw
    simp only [memV] at e
    split at e
    · rename_i zx
      split at e
      · rename_i c hc
        cases e
        obtain rfl := rv
        refine .inr (.inr (.inl ⟨c, z, ?_, rfl, ?_⟩))
        · obtain ⟨⟨l⟩⟩ := zx
          simp only at hc
          rw [hc]
        · rw [List.contains_eq_mem]
      · cases e
    · cases e
  | ref n =>
    have rw0 := rw
    simp only [memV] at e
    split at e
    · rename_i xs g
      split at e
      · rename_i ds d q1 q2
        cases e
        obtain ⟨a1, a2, a3⟩ := rd_dp r 40 _ _ _ rw q1
        obtain ⟨b1, b2, b3⟩ := rd_dp r 40 _ _ _ rv q2
        refine .inl ⟨d, ds, b1, a1, shaped_of b2 b3, shaped_of a2 a3, ?_⟩
        congr 1
        funext z
        exact eqd_ok z d
      · cases e
    · rename_i xs g
      split at e
      · rename_i c
        simp only [Bool.and_eq_true] at c
        split at e
        · rename_i ds d q1 q2
          cases e
          obtain ⟨a1, a2, a3⟩ := rd_dp r 40 _ _ _ rw q1
          obtain ⟨b1, b2, b3⟩ := rd_dp r 40 _ _ _ rv q2
          obtain ⟨a, vs, rfl, hm, q3, q4⟩ := r.tup rw g
          have q4' := q4
          refine .inr (.inl ⟨a, vs, rfl, .inr (SqT.of q3), flat_ok c.1 rv, flats_ok c.2 q4, ?_⟩)
          have s2 : DpAll Γ.K H vs ds := by
            simp only [rd, g] at q1
            cases q5 : rdAll (rd h 39) xs with
            | none => rw [q5] at q1; cases q1
            | some ds' => rw [q5] at q1; cases q1; exact rdAll_dp r 39 q4 q5
          rw [inV_dp (flat_ok c.1 rv) b1 (flats_ok c.2 q4) s2]
          congr 1
          funext z
          exact eqd_ok z d
        · cases e
      · cases e
    · rename_i kvs g
      obtain ⟨a, ws, rfl, hm, q3, q4⟩ := r.dct rw g
      cases q : keyOf v with
      | none => rw [q] at e; cases e
      | some k =>
        rw [q] at e; cases e
        exact .inr (.inr (.inr ⟨a, valV ws k, rfl, .inl ⟨ws, k, .inl q3, keyOf_ok q rv, rfl⟩, valA_some k q4⟩))
    · rename_i kvs g
      obtain ⟨a, o, ws, rfl, hm, q3, q4⟩ := r.dctL rw g
      cases q : keyOf v with
      | none => rw [q] at e; cases e
      | some k =>
        rw [q] at e; cases e
        exact .inr (.inr (.inr ⟨a, valV ws k, rfl, .inl ⟨ws, k, .inr ⟨o, q3⟩, keyOf_ok q rv, rfl⟩, valA_some k q4⟩))
    · cases e
theorem lift_ok {b : Option Bool} {Q : V → Hp → Prop} (r : Rel Γ μ h H) (q : Out Γ W μ H (lift h b) RVh Q) : ∃ k, b = some k ∧ Q (.bl k) H := by
  cases b with
  | none => exact q.elim
  | some k => exact ⟨k, rfl, q.here r rfl⟩
theorem cmp_ok (r : Rel Γ μ h H) {o : COp} {v w : AV} {x y : V} {Q : V → Hp → Prop} (rv : RV μ v x) (rw : RV μ w y) (q : Out Γ W μ H (cmpA o h v w) RVh Q) : rCmp Γ.K o x y H Q := by
  cases o with
  | eq =>
    obtain ⟨k, e, q⟩ := lift_ok r q
    obtain ⟨d, d', a1, a2, a3, a4, rfl⟩ := eqv_ok r rv rw e
    exact ⟨d, d', a1, a2, a3, a4, q⟩
  | ne =>
    obtain ⟨k, e, q⟩ := lift_ok r q
    cases e2 : eqv h v w with
    | none => rw [e2] at e; cases e
    | some b =>
      rw [e2] at e; cases e
      obtain ⟨d, d', a1, a2, a3, a4, rfl⟩ := eqv_ok r rv rw e2
      exact ⟨d, d', a1, a2, a3, a4, q⟩
  | lt =>
    simp only [cmpA] at q
    split at q
    · obtain rfl := rv; obtain rfl := rw; exact .inl ⟨_, _, rfl, rfl, q.here r rfl⟩
    · obtain rfl := rv; obtain rfl := rw; exact .inr ⟨_, _, rfl, rfl, q.here r rfl⟩
    · exact q.elim
  | le =>
    simp only [cmpA] at q
    split at q
    · obtain rfl := rv; obtain rfl := rw; exact ⟨_, _, rfl, rfl, q.here r rfl⟩
    · exact q.elim
  | gt =>
    simp only [cmpA] at q
    split at q
    · obtain rfl := rv; obtain rfl := rw; exact ⟨_, _, rfl, rfl, q.here r rfl⟩
    · exact q.elim
  | ge =>
    simp only [cmpA] at q
    split at q
    · obtain rfl := rv; obtain rfl := rw; exact ⟨_, _, rfl, rfl, q.here r rfl⟩
    · exact q.elim
  | isin =>
    obtain ⟨k, e, q⟩ := lift_ok r q
    rcases mem_ok r rv rw e with ⟨d, ds, a1, a2, a3, a4, rfl⟩ | ⟨p, xs, a1, a2, a3, a4, rfl⟩ | ⟨c, z, a1, a2, rfl⟩ | ⟨a, o, a1, a2, rfl⟩
    · exact .inl ⟨d, ds, a1, a2, a3, a4, q⟩
    · exact .inr (.inl ⟨p, xs, a1, a2, a3, a4, q⟩)
    · exact .inr (.inr (.inl ⟨c, z, a1, a2, q⟩))
    · exact .inr (.inr (.inr ⟨a, o, a1, a2, q⟩))
  | notin =>
    obtain ⟨k, e, q⟩ := lift_ok r q
    cases e2 : memV h v w with
    | none => rw [e2] at e; cases e
    | some b =>
      rw [e2] at e; cases e
      rcases mem_ok r rv rw e2 with ⟨d, ds, a1, a2, a3, a4, rfl⟩ | ⟨p, xs, a1, a2, a3, a4, rfl⟩ | ⟨c, z, a1, a2, rfl⟩ | ⟨a, o, a1, a2, rfl⟩
      · exact .inl ⟨d, ds, a1, a2, a3, a4, q⟩
      · exact .inr (.inl ⟨p, xs, a1, a2, a3, a4, q⟩)
      · exact .inr (.inr (.inl ⟨c, z, a1, a2, q⟩))
      · exact .inr (.inr (.inr ⟨a, o, a1, a2, q⟩))
  | is =>
    simp only [cmpA] at q
    split at q
    · obtain rfl := rw
      have q := q.here r rfl
      refine ⟨rfl, ?_⟩
      cases v with
      | ref n => obtain ⟨a, _, rfl⟩ := rv; exact q
      | _ => obtain rfl := rv; exact q
    · exact q.elim
  | isnot =>
    simp only [cmpA] at q
    split at q
    · obtain rfl := rw
      have q := q.here r rfl
      refine ⟨rfl, ?_⟩
      cases v with
      | ref n => obtain ⟨a, _, rfl⟩ := rv; exact q
      | _ => obtain rfl := rv; exact q
    · exact q.elim
end
end AH

set_option Elab.async false
set_option linter.all false
set_option maxRecDepth 100000
set_option maxHeartbeats 4000000
/-! AH5: items, slices, stores, built-ins, methods by values. -/
namespace AH
open PySem PySem.Spec L2
section
variable {Γ : Gm} {W : XK} {μ μ1 : Mu} {h h1 : AHp} {H H1 : Hp} {X : Cx}
theorem atI_ok {μ : Mu} {xs : List AV} {vs : List V} {i : Int} {y : AV} (r : RVs μ xs vs) (e : atI xs i = some y) : ∃ x, atI vs i = some x ∧ RV μ y x := by
  unfold atI at e ⊢
  rw [← Pd.length r]
  cases q : ixN xs.length i with
  | none => rw [q] at e; cases e
  | some j =>
    rw [q] at e
    exact Pd.get r e
def rIxDg : R2 := fun x y H Q => ∃ a v, x = .ref a ∧ DGet H a y (some v) ∧ Q v H
theorem ix_dict (hu : X.A.units + 1 < cLine) : IxR X rIxDg := by
  intro value slice pins s σ H x y v u Q I rx ry h hs
  obtain ⟨a, z, rfl, g, q⟩ := h
  cases (show v = Value.ref a from rx)
  exact PyProof.Rows.tail_any (dict_typeIs I g) PySem.F.slot_dict_getitem.lookup (d_getItem hu I g ry fun w' s3 I3 rw' => ⟨z, H, I3, rw', q⟩) hs
def rIxA (K : PySem.W.Frag) : R2 := fun x y H Q => rIx K x y H Q ∨ rIxDg x y H Q
theorem rIxA_ok {k : Nat} (hr : Room k X.A) : IxR X (rIxA X.K) := ix_seq.or (ix_dict (by have := hr.un; omega))
theorem ix_ok (r : Rel Γ μ h H) {v w : AV} {x y : V} {Q : V → Hp → Prop} (rv : RV μ v x) (rw : RV μ w y) (q : Out Γ W μ H (ixA h v w) RVh Q) : rIxA Γ.K x y H Q := by
  unfold ixA at q
  split at q
  · rename_i x' i
    obtain rfl := rv; obtain rfl := rw
    split at q
    · rename_i c
      split at q
      · rename_i z e
        exact .inl (.inr (.inr ⟨x', i, z, rfl, rfl, isz_le c, e, q.here r rfl⟩))
      · exact q.elim
    · exact q.elim
  · split at q
    · rename_i xs g
      obtain ⟨a, vs, rfl, hm, q2, q3⟩ := r.lst rv g
      split at q
      · obtain rfl := rw
        split at q
        · rename_i z e
          obtain ⟨x1, e1, r1⟩ := atI_ok q3 e
          exact .inl (.inl ⟨a, vs, _, x1, rfl, rfl, SqL.of q2, e1, q.here r r1⟩)
        · exact q.elim
      · exact q.elim
    · rename_i xs g
      obtain ⟨a, vs, rfl, hm, q2, q3⟩ := r.tup rv g
      split at q
      · obtain rfl := rw
        split at q
        · rename_i z e
          obtain ⟨x1, e1, r1⟩ := atI_ok q3 e
          exact .inl (.inr (.inl ⟨a, vs, _, x1, rfl, rfl, SqT.of q2, e1, q.here r r1⟩))
        · exact q.elim
      · exact q.elim
    · rename_i kvs g
      obtain ⟨a, ws, rfl, hm, q2, q3⟩ := r.dct rv g
      split at q
      · rename_i k ek
        split at q
        · rename_i z e
          obtain ⟨x1, e1, r1⟩ := (valA_ok k q3).1 z e
          exact .inr ⟨a, x1, rfl, .inl ⟨ws, k, .inl q2, keyOf_ok ek rw, e1.symm⟩, q.here r r1⟩
        · exact q.elim
      · exact q.elim
    · rename_i kvs g
      obtain ⟨a, o, ws, rfl, hm, q2, q3⟩ := r.dctL rv g
      split at q
      · rename_i k ek
        split at q
        · rename_i z e
          obtain ⟨x1, e1, r1⟩ := (valA_ok k q3).1 z e
          exact .inr ⟨a, x1, rfl, .inl ⟨ws, k, .inr ⟨o, q2⟩, keyOf_ok ek rw, e1.symm⟩, q.here r r1⟩
        · exact q.elim
      · exact q.elim
    · exact q.elim
  · exact q.elim
/-! ### slices -/
def rSlAll (K : PySem.W.Frag) : V → Option Int → Option Int → Hp → VK → Prop := fun x lo hi H Q => rSlL K x lo hi H Q ∨ rSlA K x lo hi H Q ∨ rSlS x lo hi H Q
theorem rSlAll_ok : SlR X (rSlAll X.K) := sl_list.or (sl_tupA.or sl_str)
theorem cut_ok {μ : Mu} {xs : List AV} {vs : List V} {lo hi : Option Int} (r : RVs μ xs vs) : RVs μ (cutA xs lo hi) (cutV vs lo hi) := by
  unfold cutA cutV
  rw [← Pd.length r]
  exact Pd.take _ (Pd.drop _ r)
theorem sl_ok (r : Rel Γ μ h H) {v : AV} {x : V} {lo hi : Option Int} {Q : V → Hp → Prop} (rv : RV μ v x) (q : Out Γ W μ H (slA h v lo hi) RVh Q) : rSlAll Γ.K x lo hi H Q := by
  unfold slA at q
  split at q
  · rename_i z
    obtain rfl := rv
    split at q
    · rename_i c
      exact .inr (.inr ⟨z, rfl, isz_le c, q.here r rfl⟩)
    · exact q.elim
  · split at q
    · rename_i xs g
      obtain ⟨a, vs, rfl, hm, q2, q3⟩ := r.lst rv g
      exact .inl ⟨a, vs, rfl, SqL.of q2, fun p hp => q.new r hp ⟨_, upd_same, (cut_ok q3).mono r.addLe⟩⟩
    · rename_i xs g
      obtain ⟨a, vs, rfl, hm, q2, q3⟩ := r.tup rv g
      have hl := Pd.length q3
      refine .inr (.inl ⟨a, vs, rfl, SqT.of q2, fun c => ?_, fun c p hp => ?_⟩)
      · rw [if_pos (by rw [hl]; simpa using c)] at q
        exact q.here r ⟨a, hm, rfl⟩
      · rw [if_neg (by rw [hl]; simpa using c)] at q
        exact q.new r hp ⟨_, upd_same, (cut_ok q3).mono r.addLe⟩
    · exact q.elim
  · exact q.elim
/-! ### stores -/
def rSetA : TSet := fun o i v H Q => rSetL o i v H Q ∨ rSetD o i v H Q
theorem rSetA_ok {k : Nat} (hr : Room k X.A) : PSet X rSetA := by
  intro pins s σ H o i v ov iv u Q I ro ri rv h
  rcases h with h | h
  · exact set_list pins s σ H o i v ov iv u Q I ro ri rv h
  · exact set_dict (by have := hr.un; omega) pins s σ H o i v ov iv u Q I ro ri rv h
theorem set_ok (r : Rel Γ μ h H) {o w v : AV} {xo xw xv : V} {h2 : AHp} {Q : Hp → Prop} (ro : RV μ o xo) (rw : RV μ w xw) (rv : RV μ v xv) (e : setIxA h o w v = some h2) (q : ∀ H1, Ext μ H μ H1 → Rel Γ μ h2 H1 → Q H1) : rSetA xo xw xv H Q := by
  unfold setIxA at e
  split at e
  · split at e
    · rename_i xs g
      obtain ⟨a, vs, rfl, hm, q2, q3⟩ := r.lst ro g
      split at e
      · obtain rfl := rw
        split at e
        · rename_i j ej
          cases e
          have hl := Pd.length q3
          obtain ⟨r1, e1⟩ := r.set (u := .lst (vs.set j xv)) hm g rfl (o' := .lst (xs.set j v)) ⟨_, upd_same, Pd.set rv j q3⟩
          exact .inl ⟨a, vs, _, j, rfl, rfl, q2, by rw [← hl]; exact ej, q _ e1 r1⟩
        · cases e
      · cases e
    · rename_i kvs g
      obtain ⟨a, ws, rfl, hm, q2, q3⟩ := r.dct ro g
      split at e
      · rename_i k ek
        split at e
        · rename_i c
          cases e
          have hl := Pd.length q3
          obtain ⟨r1, e1⟩ := r.set (u := .dK (putK ws k xv)) hm g rfl (o' := .dct (putA k v kvs)) ⟨_, upd_same, putA_ok k rv q3⟩
          exact .inr ⟨a, _, rfl, .inl ⟨ws, k, q2, keyOf_ok ek rw, by rw [← hl]; exact blt_lt c, rfl⟩, q _ e1 r1⟩
        · cases e
      · cases e
    · cases e
  · cases e
/-! ### isinstance -/
def tyS : Ty → String
  | .list => "list" | .tuple => "tuple" | .int => "int" | .bool => "bool" | .str => "str" | .dict => "dict"
def kdS : Kd → String
  | .non => "NoneType" | .bl => "bool" | .int => "int" | .str => "str" | .lst => "list" | .tup => "tuple" | .dct => "dict"
theorem kd_ok (r : Rel Γ μ h H) {v : AV} {x : V} {n : Kd} (rv : RV μ v x) (e : kdA h v = some n) : TyX Γ.K H x (.type (kdS n)) := by
  cases v with
  | non => cases e; obtain rfl := rv; exact .base .non
  | bl _ => cases e; obtain rfl := rv; exact .base (.bl _)
  | int _ => cases e; obtain rfl := rv; exact .base (.int _)
  | str _ => cases e; obtain rfl := rv; exact .base (.str _)
  | ref a =>
    simp only [kdA] at e
    split at e
    · rename_i g; obtain ⟨a, vs, rfl, hm, q2, q3⟩ := r.lst rv g; cases e; exact .base (.lst q2)
    · rename_i g; obtain ⟨a, vs, rfl, hm, q2, q3⟩ := r.tup rv g; cases e; exact .base (.tup q2)
    · rename_i g; obtain ⟨a, vs, rfl, hm, q2, q3⟩ := r.dct rv g; cases e; exact .base (.dK q2)
    · rename_i g; obtain ⟨a, o, vs, rfl, hm, q2, q3⟩ := r.dctL rv g; cases e; exact .fDict q2
    · cases e
theorem kTab_ok (n : Kd) (t : Ty) : kitB (kdS n) (tyS t) = some (kTab n t) := by
  cases n <;> cases t <;> decide +kernel
theorem kitAny_ok {K : PySem.W.Frag} (n : Kd) : ∀ ts : List Ty, PySem.W.kitAny K (.type (kdS n)) (ts.map fun t => .type (tyS t)) = some (ts.any (kTab n))
  | [] => rfl
  | t :: r => by
    rw [List.map_cons, List.any_cons]
    unfold PySem.W.kitAny
    rw [kit_ty (kTab_ok n t)]
    cases kTab n t with
    | true => rfl
    | false => simp only [Bool.false_or]; exact kitAny_ok n r
/-! ### built-ins -/
theorem intsOf_ok {μ : Mu} : ∀ {xs : List AV} {vs : List V} {ns : List Int}, RVs μ xs vs → intsOf xs = some ns → vs = ns.map V.int
  | [], _, _, .nil, e => by cases e; rfl
  | .int i :: r, _, _, .cons r1 r2, e => by
    simp only [intsOf] at e
    cases q : intsOf r with
    | none => rw [q] at e; cases e
    | some ms =>
      rw [q] at e; cases e
      obtain rfl := r1
      rw [intsOf_ok r2 q]; rfl
  | .non :: _, _, _, _, e => by cases e
  | .bl _ :: _, _, _, _, e => by cases e
  | .str _ :: _, _, _, _, e => by cases e
  | .ref _ :: _, _, _, _, e => by cases e
theorem blsOf_ok {μ : Mu} : ∀ {xs : List AV} {vs : List V} {ns : List Bool}, RVs μ xs vs → blsOf xs = some ns → vs = ns.map V.bl
  | [], _, _, .nil, e => by cases e; rfl
  | .bl i :: r, _, _, .cons r1 r2, e => by
    simp only [blsOf] at e
    cases q : blsOf r with
    | none => rw [q] at e; cases e
    | some ms =>
      rw [q] at e; cases e
      obtain rfl := r1
      rw [blsOf_ok r2 q]; rfl
  | .non :: _, _, _, _, e => by cases e
  | .int _ :: _, _, _, _, e => by cases e
  | .str _ :: _, _, _, _, e => by cases e
  | .ref _ :: _, _, _, _, e => by cases e
def biS : Bi → Str
  | .len => "len" | .int => "int" | .str => "str" | .max2 => "max" | .min2 => "min" | .maxL => "max" | .minL => "min" | .sum => "sum" | .all => "all" | .any => "any"
def rLenA (K : PySem.W.Frag) : List V → Hp → VK → Prop := fun xs H Q => (∃ x n, xs = [x] ∧ LenV K x H n ∧ Q (.int n) H) ∨ ∃ a kvs, xs = [.ref a] ∧ Rd H a (.dK kvs) ∧ Q (.int (kvs.length : Nat)) H
theorem call_lenA : CallR X (.builtin "len") (rLenA X.K) := by
  intro pins s σ H xs us Q I r h
  rcases h with h | ⟨a, kvs, rfl, g, q⟩
  · exact call_len pins s σ H xs us Q I r h
  · obtain ⟨u, rfl, ru⟩ := r.one
    cases (show u = Value.ref a from ru)
    exact d_len I g fun t s' I' => ⟨.int _, H, I', ⟨t, rfl⟩, q⟩
def rBi (K : PySem.W.Frag) : Bi → List V → Hp → VK → Prop
  | .len => rLenA K
  | .int => fun xs H Q => (∃ i, xs = [.int i] ∧ Q (.int i) H) ∨ ∃ k, xs = [.bl k] ∧ Q (.int (if k then 1 else 0)) H
  | .str => fun xs H Q => ∃ i, xs = [.int i] ∧ i.natAbs.log2 < 1920 ∧ Q (.str (toString i)) H
  | .max2 => fun xs H Q => ∃ i j, xs = [.int i, .int j] ∧ Q (.int (if j > i then j else i)) H
  | .min2 => fun xs H Q => ∃ i j, xs = [.int i, .int j] ∧ Q (.int (if j < i then j else i)) H
  | .maxL => fun _ _ _ => False
  | .minL => fun _ _ _ => False
  | .sum => rSum K
  | .all => rAll K
  | .any => rAny K
def biV : Bi → Value
  | .len => .builtin "len" | .int => .type "int" | .str => .type "str" | .max2 => .builtin "max" | .min2 => .builtin "min" | .maxL => .builtin "max" | .minL => .builtin "min" | .sum => .builtin "sum" | .all => .builtin "all" | .any => .builtin "any"
theorem rBi_ok (hc : X.calm = true) (b : Bi) : CallR X (biV b) (rBi X.K b) := by
  cases b with
  | len => exact call_lenA
  | int => exact call_int1
  | str => exact call_str_int
  | max2 => exact call_max2 hc
  | min2 => exact call_min2 hc
  | maxL => intro _ _ _ _ _ _ _ _ _ h; exact h.elim
  | minL => intro _ _ _ _ _ _ _ _ _ h; exact h.elim
  | sum => exact cr_sum hc
  | all => exact cr_all hc
  | any => exact cr_any hc
theorem RVs.one {μ : Mu} {v : AV} {xs : List V} (r : RVs μ [v] xs) : ∃ x, xs = [x] ∧ RV μ v x := by
  cases r with
  | cons a b => cases b; exact ⟨_, rfl, a⟩
theorem RVs.two {μ : Mu} {v w : AV} {xs : List V} (r : RVs μ [v, w] xs) : ∃ x y, xs = [x, y] ∧ RV μ v x ∧ RV μ w y := by
  cases r with
  | cons a b =>
    obtain ⟨y, rfl, q⟩ := RVs.one b
    exact ⟨_, y, rfl, a, q⟩
theorem blt_ok (r : Rel Γ μ h H) {b : Bi} {vs : List AV} {xs : List V} {Q : V → Hp → Prop} (rv : RVs μ vs xs) (q : Out Γ W μ H (bltA b h vs) RVh Q) : rBi Γ.K b xs H Q := by
  unfold bltA at q
  split at q
  · obtain ⟨x, rfl, rx⟩ := RVs.one rv
    obtain rfl := rx
    split at q
    · rename_i c
      exact .inl ⟨_, _, rfl, ⟨isz_le c, rfl⟩, q.here r rfl⟩
    · exact q.elim
  · obtain ⟨x, rfl, rx⟩ := RVs.one rv
    split at q
    · rename_i g
      obtain ⟨a, vs, rfl, hm, q2, q3⟩ := r.lst rx g
      exact .inl ⟨_, _, rfl, .inl ⟨vs, SqL.of q2, rfl⟩, q.here r (by rw [Pd.length q3]; rfl)⟩
    · rename_i g
      obtain ⟨a, vs, rfl, hm, q2, q3⟩ := r.tup rx g
      exact .inl ⟨_, _, rfl, .inr ⟨vs, SqT.of q2, rfl⟩, q.here r (by rw [Pd.length q3]; rfl)⟩
    · rename_i ns g
      obtain ⟨a, rfl, hm, q2⟩ := r.scr rx g
      exact .inl ⟨_, _, rfl, .inl ⟨_, .inl q2, rfl⟩, q.here r (by rw [List.length_map]; rfl)⟩
    · rename_i g
      obtain ⟨a, vs, rfl, hm, q2, q3⟩ := r.dct rx g
      exact .inr ⟨_, _, rfl, .inl q2, q.here r (by rw [Pd.length q3]; rfl)⟩
    · rename_i g
      obtain ⟨a, o, vs, rfl, hm, q2, q3⟩ := r.dctL rx g
      exact .inr ⟨_, _, rfl, .inr ⟨o, q2⟩, q.here r (by rw [Pd.length q3]; rfl)⟩
    · exact q.elim
  · obtain ⟨x, rfl, rx⟩ := RVs.one rv
    obtain rfl := rx
    exact .inl ⟨_, rfl, q.here r rfl⟩
  · obtain ⟨x, rfl, rx⟩ := RVs.one rv
    obtain rfl := rx
    exact .inr ⟨_, rfl, q.here r rfl⟩
  · obtain ⟨x, rfl, rx⟩ := RVs.one rv
    obtain rfl := rx
    split at q
    · rename_i c
      exact ⟨_, rfl, of_decide_eq_true c, q.here r rfl⟩
    · exact q.elim
  · obtain ⟨x, y, rfl, rx, ry⟩ := RVs.two rv
    obtain rfl := rx
    obtain rfl := ry
    exact ⟨_, _, rfl, q.here r rfl⟩
  · obtain ⟨x, y, rfl, rx, ry⟩ := RVs.two rv
    obtain rfl := rx
    obtain rfl := ry
    exact ⟨_, _, rfl, q.here r rfl⟩
  · obtain ⟨x, rfl, rx⟩ := RVs.one rv
    split at q
    · rename_i g
      obtain ⟨a, vs, rfl, hm, q2, q3⟩ := r.lst rx g
      split at q
      · rename_i ns e
        exact ⟨a, ns, rfl, by rw [← intsOf_ok q3 e]; exact SqL.of q2, q.here r rfl⟩
      · exact q.elim
    · exact q.elim
  · obtain ⟨x, rfl, rx⟩ := RVs.one rv
    split at q
    · rename_i g
      obtain ⟨a, vs, rfl, hm, q2, q3⟩ := r.lst rx g
      split at q
      · rename_i ns e
        exact ⟨a, ns, rfl, by rw [← blsOf_ok q3 e]; exact SqL.of q2, q.here r rfl⟩
      · exact q.elim
    · exact q.elim
  · obtain ⟨x, rfl, rx⟩ := RVs.one rv
    split at q
    · rename_i g
      obtain ⟨a, vs, rfl, hm, q2, q3⟩ := r.lst rx g
      split at q
      · rename_i ns e
        exact ⟨a, ns, rfl, by rw [← blsOf_ok q3 e]; exact SqL.of q2, q.here r rfl⟩
      · exact q.elim
    · exact q.elim
  · exact q.elim
end
end AH

set_option Elab.async false
set_option linter.all false
set_option maxRecDepth 100000
set_option maxHeartbeats 4000000
/-! AH5b: names; errors' classes; defs that ask. -/
namespace AH
open PySem PySem.Spec L2
/-- the program's names by number -/
structure Nm where
  has : Nat → Bool
  fn : Nat → Str
  ps : Nat → List Str
  cls : Nat → Str
  fld : Nat → Str
  con : Nat → Str
  kws : Nat → List (List Str × List Nat)
def nmOk (x : Str) : Bool := match x.cps.toList with
  | 95 :: 95 :: _ => false
  | _ => true
theorem nm_ne {x : Str} (h : nmOk x = true) (y : Str) (hy : nmOk y = false) : x ≠ y := fun e => by rw [e, hy] at h; cases h
theorem nm_debug {x : Str} (h : nmOk x = true) : (x == ("__debug__" : Str)) = false := by
  rw [beq_eq_false_iff_ne]; exact nm_ne h _ (by decide +kernel)
theorem nm_cd {x : Str} (h : nmOk x = true) : (x == ("__classdict__" : Str)) = false := by
  rw [beq_eq_false_iff_ne]; exact nm_ne h _ (by decide +kernel)
theorem nm_name {x : Str} (h : nmOk x = true) : x ≠ ("__name__" : Str) := nm_ne h _ (by decide +kernel)
def vis (sc : Scope) (x : Str) : Bool := match sc.names.lookup x with
  | some .local => true
  | some .cell => true
  | some .free => true
  | _ => false
def glb (sc : Scope) (x : Str) : Bool := match sc.names.lookup x with
  | some .globalImplicit => true
  | _ => false
theorem vis_ok {sc : Scope} {x : Str} (h : vis sc x = true) : Vis sc x := by
  unfold vis at h
  unfold Vis
  split at h
  · rename_i e; exact .inl e
  · rename_i e; exact .inr (.inl e)
  · rename_i e; exact .inr (.inr e)
  · cases h
theorem glb_ok {X : Cx} {x : Str} (h : glb X.env.scope x = true) : Gl X x := by
  unfold glb at h
  split at h
  · rename_i e; exact e
  · cases h
def exoB (K : PySem.W.Frag) (C : Addr) : Bool := (match K.lookup C with
  | some ⟨.type "type", _, .cls cd, sl⟩ => (match cd.mro, sl.toList with
    | .ref C' :: bm, [_, _, _, _, some (.builtin n), _] => C' == C && n == "ValueError.__new__" && !cd.hasDel && cd.hasDict && PySem.HandSPX.refsVE bm
    | _, _ => false)
  | _ => false) && (decide (PySem.W.findIn K (.ref C) "__setattr__" = some (some (.builtin "object.__setattr__"))) && (decide (PySem.W.subIn K (.ref C) (.type "BaseException") = some true) && (decide (PySem.W.typeIn K (.ref C) = some (.type "type")) && PySem.W.keepIn K (.ref C))))
theorem exoB_ok {K : PySem.W.Frag} {C : Addr} (h : exoB K C = true) : OexC K C := by
  unfold exoB at h
  simp only [Bool.and_eq_true, decide_eq_true_eq] at h
  obtain ⟨h1, h2, h3, h4, h5⟩ := h
  refine ⟨?_, h2, h3, h4, h5⟩
  split at h1
  · rename_i dd cd sl ho
    split at h1
    · rename_i C' bm k0 k1 k2 k3 n k5 hm hs
      simp only [Bool.and_eq_true, beq_iff_eq, Bool.not_eq_true'] at h1
      obtain ⟨⟨⟨⟨e1, e2⟩, e3⟩, e4⟩, e5⟩ := h1
      obtain ⟨nm, bs, mro, ns, qn, hd, sn, sb, ab, col, del⟩ := cd
      simp only at hm e3 e4
      subst e1 e2 hm e3 e4
      have : sl = #[k0, k1, k2, k3, some (.builtin "ValueError.__new__"), k5] := by
        rw [← hs]
      subst this
      exact ⟨_, _, _, _, _, _, _, _, _, _, _, _, _, _, _, ho, e5⟩
    · cases h1
  · cases h1
/-- an error's own __init__: what it leaves -/
def spI (C : Addr) (fs : List Str) : Sp := fun vs H Q _ => ∃ a ws, vs = .ref a :: ws ∧ ws.length = fs.length ∧ H a = some (exo a C none) ∧
  ∀ dx H2, H dx = none → dx ≠ a → H2 a = some (exo a C (some dx)) → H2 dx = some (exd dx (fs.zip ws).reverse) → (∀ b, b ≠ a → b ≠ dx → H2 b = H b) → Q .non H2
/-- what is known of an error's class -/
structure ClsOk (prog : Program) (w : World) (K : PySem.W.Frag) (mg : Str → Option Value) (base : Heap) (C : Addr) (x : Str) (fs : List Str) : Prop where
  glo : mg x = some (.ref C)
  oex : OexC K C
  xf : XfC K C
  nof : ∀ f ∈ fs, PySem.W.findIn K (.ref C) f = some none
  init : ∃ fI fd ps, PySem.W.findIn K (.ref C) "__init__" = some (some (.ref fI)) ∧ PySem.W.typeIn K (.ref fI) = some (.type "function") ∧ Binds K fd ps [] ∧ FnOk prog w K mg base (L2.CX prog w) 2 fI fd ps (spI C fs)
/-! ### the body of an __init__ -/
/-- the stores that follow, their slots -/
def initB (N : List Str) (sc : Scope) : List Str → Nat → List Stmt → Bool
  | [], _, [] => true
  | f :: fs, i, .Assign [.Attribute (.Name s _) g _] (.Name p _) _ :: r => decide (N[0]? = some s) && decide (N[i]? = some p) && decide (f = g) && vis sc s && vis sc p && nmOk s && nmOk p && initB N sc fs (i + 1) r
  | _, _, _ => false
def tIn (K : PySem.W.Frag) : List Str → Nat → TS
  | [], _ => tNext
  | f :: fs, i => tSeq (tOst K f (tVar 0) (tVar i)) (tIn K fs (i + 1))
theorem init_ps {X : Cx} {N : List Str} {sc : Scope} (hN : X.N = N) (hs : X.env.scope = sc) : ∀ (fs : List Str) (i : Nat) (body : List Stmt), initB N sc fs i body = true → PSs X body (tIn X.K fs i)
  | [], i, [], _ => pss_nil
  | f :: fs, i, .Assign [.Attribute (.Name s p1) g p2] (.Name p p3) p4 :: r, h => by
    unfold initB at h
    simp only [Bool.and_eq_true, decide_eq_true_eq] at h
    obtain ⟨⟨⟨⟨⟨⟨⟨h1, h2⟩, h3⟩, h4⟩, h5⟩, h6⟩, h7⟩, h8⟩ := h
    subst h3
    exact pss_cons (ps_ost (pe_var (by rw [hN]; exact h1) (by rw [hs]; exact vis_ok h4) (nm_debug h6) (nm_cd h6)) (pe_var (by rw [hN]; exact h2) (by rw [hs]; exact vis_ok h5) (nm_debug h7) (nm_cd h7))) (init_ps hN hs fs (i + 1) r h8)
  | [], i, st :: r, h => by cases st <;> cases h
  | f :: fs, i, [], h => by cases h
theorem init_rest {K : PySem.W.Frag} {C a dx : Addr} (T : OexC K C) : ∀ (fs : List Str) (ws : List V) (i : Nat) (done : List (Str × V)) (σ : St) (H : Hp) (D : Ends), (∀ f ∈ fs, PySem.W.findIn K (.ref C) f = some none) → done.length + fs.length ≤ 900 → ws.length = fs.length → σ[0]? = some (some (.ref a)) → (∀ (j : Nat) w, ws[j]? = some w → σ[i + j]? = some (some w)) →
    H a = some (exo a C (some dx)) → H dx = some (exd dx done) → dx ≠ a →
    (∀ H2, H2 a = some (exo a C (some dx)) → H2 dx = some (exd dx ((fs.zip ws).reverse ++ done)) → (∀ b, b ≠ a → b ≠ dx → H2 b = H b) → D.nx σ H2) → tIn K fs i D σ H
  | [], ws, i, done, σ, H, D, _, _, hl, _, _, ha, hd, _, q => by
    refine q H ha (by rw [hd]; cases ws <;> first | rfl | cases hl) fun _ _ _ => rfl
  | f :: fs, [], i, done, σ, H, D, _, _, hl, _, _, _, _, _, _ => by cases hl
  | f :: fs, w :: ws, i, done, σ, H, D, hf, hz, hl, h0, hi, ha, hd, hne, q => by
    refine ⟨w, hi 0 w rfl, .ref a, h0, a, C, rfl, T, hf f (by simp), .inr ⟨dx, done, ha, hd, by simp at hz; omega, ?_⟩⟩
    refine init_rest T fs ws (i + 1) ((f, w) :: done) σ _ D (fun g hg => hf g (by simp [hg])) (by simp at hz ⊢; omega) (by simpa using hl) h0 (fun j z hj => by have := hi (j + 1) z (by simpa using hj); rw [show i + 1 + j = i + (j + 1) by omega]; exact this) (by rw [upd_ne (Ne.symm hne)]; exact ha) upd_same hne fun H2 g1 g2 g3 => ?_
    refine q H2 g1 (by rw [g2]; simp) fun b b1 b2 => by rw [g3 b b1 b2, upd_ne b2]
theorem cls_init {prog : Program} {w : World} {K : PySem.W.Frag} {mg : Str → Option Value} {base : Heap} {C : Addr} {x qual : Str} {pa : Arguments} {body : List Stmt} {sc : Scope} {kws : List (Str × V)} {fI : Addr} {fd : FuncData} {N : List Str} {fs : List Str} (T : OexC K C) (F : FunD K x qual pa body sc [] kws fI fd)
    (S : FnScope N N sc) (hN : N.length = fs.length + 1) (h0 : fs ≠ []) (h9 : fs.length ≤ 900) (hf : ∀ f ∈ fs, PySem.W.findIn K (.ref C) f = some none) (hb : initB N sc fs 1 body = true) : FnOk prog w K mg base (L2.CX prog w) 2 fI fd N (spI C fs) := by
  refine FunD.ok (k := 1) F S (fun vs H Q E ⟨a, ws, e, hl, _⟩ => by rw [e, hN]; simp [hl]) fun cdv A outer s H vs Q E hr ⟨a, ws, e, hl, ha, q⟩ => ⟨tIn K fs 1, init_ps rfl rfl fs 1 body hb, ?_⟩
  subst e
  match fs, ws, h0, hl with
  | f :: fs, w :: ws, _, hl =>
    have hlt : ∀ (j : Nat) z, (V.ref a :: w :: ws)[j]? = some z → (L2.start N (V.ref a :: w :: ws))[j]? = some (some z) := fun j z hj => by
      unfold L2.start
      have hj' := (List.getElem?_eq_some_iff.mp hj).1
      rw [List.getElem?_append_left (by simpa using hj'), List.getElem?_map, hj]
      rfl
    refine ⟨w, hlt 1 w rfl, .ref a, hlt 0 _ rfl, a, C, rfl, T, hf f (by simp), .inl ⟨ha, fun dx hdx hne => ?_⟩⟩
    refine init_rest (dx := dx) T fs ws 2 [(f, w)] _ _ _ (fun g hg => hf g (by simp [hg])) (by simp at h9 ⊢; omega) (by simpa using hl) (hlt 0 _ rfl) (fun j z hj => by have := hlt (j + 2) z (by simpa using hj); rw [show 2 + j = j + 2 by omega]; exact this) upd_same (by rw [upd_ne hne]; exact upd_same) hne fun H2 g1 g2 g3 => ?_
    refine q dx H2 hdx hne g1 (by rw [g2]; simp) fun b b1 b2 => by rw [g3 b b1 b2, upd_ne b1, upd_ne b2]
/-! ### a def that asks and tells of errors -/
def hkM (K : PySem.W.Frag) (Γ : Gm) (w : Str) : HK → Value → Option Addr → Hp → VK → Prop
  | .none, _, _, H, Q => ∀ p, H p = none → Q (.ref p) (upd H p (.tup [.str w, .non]))
  | .fld f, cls, d, H, Q => ∃ C dd fs v, cls = .ref C ∧ XfC K C ∧ PySem.W.findIn K (.ref C) (Γ.nmF f) = some none ∧ d = some dd ∧ H dd = some (.xd fs) ∧ fs.lookup (Γ.nmF f) = some v ∧ ∀ p, H p = none → Q (.ref p) (upd H p (.tup [.str w, v]))
  | .two f g, cls, d, H, Q => ∃ C dd fs u v, cls = .ref C ∧ XfC K C ∧ PySem.W.findIn K (.ref C) (Γ.nmF f) = some none ∧ PySem.W.findIn K (.ref C) (Γ.nmF g) = some none ∧ d = some dd ∧ H dd = some (.xd fs) ∧ fs.lookup (Γ.nmF f) = some u ∧ fs.lookup (Γ.nmF g) = some v ∧
      ∀ p, H p = none → ∀ q, upd H p (.tup [u, v]) q = none → Q (.ref q) (upd (upd H p (.tup [u, v])) q (.tup [.str w, .ref p]))
def hdlM (K : PySem.W.Frag) (Γ : Gm) : List (Nat × Str × HK) → Value → Option Addr → Hp → VK → Prop
  | [], _, _, _, _ => False
  | (c, w, hk) :: r, cls, d, H, Q => ∃ b, PySem.W.exmOne K cls (.ref (Γ.nmC c)) = some b ∧ (b = true → hkM K Γ w hk cls d H Q) ∧ (b = false → hdlM K Γ r cls d H Q)
def TTm (K : PySem.W.Frag) (Γ : Gm) (told : Str) (hs : List (Nat × Str × HK)) : (XK → Hp → VK → Prop) → Hp → VK → Prop := fun tl H Q =>
  tl (fun cls d H' => hdlM K Γ hs cls d H' Q) H fun v H' => ∀ p, H' p = none → Q (.ref p) (upd H' p (.tup [.str told, v]))
structure MetOk (prog : Program) (w : World) (K : PySem.W.Frag) (mg : Str → Option Value) (base : Heap) (Γ : Gm) (x told : Str) (hs : List (Nat × Str × HK)) : Prop where
  ex : ∃ (g : Addr) (a : Str) (oc : Value) (od : Option Addr) (pg : Arguments) (bg : List Stmt) (sg : Scope) (dV kV doc pm : Value) (an : Option Addr) (cdv ct : Value) (osl : Array (Option Value)) (Ng : List Str),
    mg x = some (.ref g) ∧ PySem.W.keepIn K (.ref g) = true ∧ K.lookup g = some ⟨oc, od, .func (PySem.W.fnOf x x pg bg sg dV kV doc pm an cdv ct), osl⟩ ∧ PySem.W.codeIn K cdv x = true ∧ Binds K (PySem.W.fnOf x x pg bg sg dV kV doc pm an cdv ct) [a] [] ∧
    FnScope Ng [a] sg ∧ Ng[0]? = some a ∧ Vis sg a ∧ (a == ("__debug__" : Str)) = false ∧ (a == ("__classdict__" : Str)) = false ∧
    ∀ (X : Cx) (q : Str), X.prog = prog → X.w = w → X.K = K → X.mg = mg → X.base = base → LamX.GivesTo X Ng x sg g cdv bg a q (TTm K Γ told hs)
end AH

set_option Elab.async false
set_option linter.all false
set_option maxRecDepth 100000
set_option maxHeartbeats 4000000
/-! AH6: what is looked at of the text; what is fixed where a text runs; plain expressions. -/
namespace AH
open PySem PySem.Spec L2
def noStar : Expr → Bool
  | .Starred .. => false
  | _ => true
theorem star1 {e : Expr} (h : noStar e = true) (es : List Expr) (env : Env) : starEach (e :: es) env = (false, eval e env) :: starEach es env := by
  cases e <;> first | rfl | cases h
def noStars (es : List Expr) : Bool := es.all noStar
theorem stars_any : ∀ {es : List Expr} (h : noStars es = true) (pos : Pos) (env : Env), (backTo pos (starEach es env)).any (·.1) = false
  | [], _, _, _ => rfl
  | e :: es, h, pos, env => by
    unfold noStars at h
    rw [List.all_cons, Bool.and_eq_true] at h
    rw [star1 h.1]
    have ih := stars_any (es := es) h.2 pos env
    unfold backTo at ih ⊢
    rw [List.map_cons, List.any_cons, ih]
    rfl
def plainT : Expr → Bool
  | .UnaryOp .Not .. => false
  | .BoolOp .. => false
  | .IfExp .. => false
  | .Compare .. => false
  | _ => true
theorem plainT_ok {e : Expr} (h : plainT e = true) (env : Env) (whole : Sem Value) : isTrue e env whole = (do let v ← whole; standAt e.pos; holding [v] (truthy v)) := by
  cases e with
  | UnaryOp o _ _ => cases o <;> first | rfl | cases h
  | BoolOp _ _ _ => cases h
  | IfExp _ _ _ _ => cases h
  | Compare _ _ _ _ => cases h
  | _ => rfl
def noSlice : Expr → Bool
  | .Slice .. => false
  | _ => true
theorem noSlice_ok {e : Expr} (h : noSlice e = true) : PlainIx e := fun o i => by
  cases e with
  | Slice _ _ s _ => cases h
  | _ => rfl
def baseOk : Expr → Bool
  | .Call (.Name _ _) [] [] _ => false
  | _ => true
theorem base_ok {e : Expr} (h : baseOk e = true) (m : Str) (env : Env) (w : Sem Value) : attributeBase e m env w = w := by
  unfold attributeBase
  split
  · cases h
  · rfl
def noComp : Expr → Bool
  | .ListComp .. => false
  | .SetComp .. => false
  | .DictComp .. => false
  | _ => true
theorem swaps_no {e : Expr} (h : noComp e = true) (t : Option Expr) (l : Nat) (env : Env) : swapsWith e t l env = pure false := by
  cases e <;> first | rfl | cases h
def noSet : Expr → Bool
  | .Set .. => false
  | _ => true
theorem noSet_fold {e : Expr} (h : noSet e = true) (env : Env) (x : Value) : foldedSetIterable e env x = pure x := by
  cases e <;> first | rfl | cases h
theorem noSet_mark {e : Expr} (h : noSet e = true) (op : CmpOp) : behindInMarks op e = false := by
  cases e <;> first | rfl | cases h

/-- in another order -/
def permV {α : Type} (ws : List α) : List Nat → List α
  | [] => []
  | i :: r => match ws[i]? with
    | some v => v :: permV ws r
    | none => permV ws r
/-- a def's promise: what AH's function gives -/
def spF (Γ : Gm) (F : List AV → AHp → Rs AV) (n : Nat) : Sp := fun vs H Q E => vs.length = n ∧ ∃ μ h args, Rel Γ μ h H ∧ RVs μ args vs ∧ Out Γ E μ H (F args h) RVh Q
def bNames : List Str := ["len", "int", "str", "max", "min", "sum", "all", "any", "isinstance", "list", "tuple", "dict", "bool", "range", "enumerate", "zip", "sorted"]
/-- what is known where a text runs -/
structure HX (M : Nm) (N : List Str) (Γ : Gm) (C : Cf) (lm : Bool) (k : Nat) (sc : Scope) (cf : Str → Bool) (W : XK) (X : Cx) : Prop where
  fnc : ∀ x, cf x = true → X.fn x = true
  hN : X.N = N
  nd : N.Nodup
  sc : X.env.scope = sc
  K : X.K = Γ.K
  calm : X.calm = true
  room : Room k X.A
  tk : Takes X (fun c d _ H => W c d H)
  ps : PassesOwn (model X.prog X.w) X.A X.env X.xe
  fn : ∀ f, M.has f = true → (∀ args h, C.callf f args h ≠ .no → args.length = (M.ps f).length) ∧ ∃ fa fd, X.mg (M.fn f) = some (.ref fa) ∧ PySem.W.keepIn X.K (.ref fa) = true ∧ Binds X.K fd (M.ps f) [] ∧ FnOk X.prog X.w X.K X.mg X.base (L2.CX X.prog X.w) k fa fd (M.ps f) (spF Γ (C.callf f) (M.ps f).length) ∧ ∀ p ∈ M.kws f, ∀ (s : Shared) (ws : List Value), ws.length = p.1.length → BindsTo s fd ⟨[], p.1.zip ws⟩ ((M.ps f).zip (permV ws p.2))
  bl : ∀ x ∈ bNames, X.mg x = none
  k3 : 3 ≤ k
  cl : ∀ c fs, C.P.cls c = some fs → fs.length ≤ 900 ∧ ClsOk X.prog X.w X.K X.mg X.base (Γ.nmC c) (M.cls c) (fs.map Γ.nmF) ∧ ∀ f ∈ fs, ∀ g ∈ fs, Γ.nmF f = Γ.nmF g → f = g
  xm : ∀ c c', (C.P.cls c).isSome = true → (C.P.cls c').isSome = true → PySem.W.exmOne X.K (.ref (Γ.nmC c)) (.ref (Γ.nmC c')) = some (c == c')
  mt : ∀ f told hs, C.P.met f = some (told, hs) → (∀ q ∈ hs, (C.P.cls q.1).isSome = true) ∧ MetOk X.prog X.w X.K X.mg X.base Γ (M.fn f) told hs
  lam : lm = true → Room (k + 2) X.A ∧ ∃ c P, LamX.TabB X.base X.mg c P ∧ X.env.code = .ref c ∧ (P, X.env.qual ++ "<lambda>") ∈ Γ.T ∧ (∀ p ∈ Γ.T, p.1 = P → p.2 = X.env.qual ++ "<lambda>")
  con : ∀ x v, C.P.con x = some v → ∃ u z, X.mg (M.con x) = some u ∧ RelV z u ∧ RV (fun _ => none) v z
structure Snd (X : Cx) (Γ : Gm) (W : XK) (C : Cf) (e : E) (ex : Expr) : Prop where
  pe : PE X ex (tE Γ W C e)
  pt : PT X ex (tT Γ W C e)
  pw : (∃ op es pos, ex = .BoolOp op es pos) → PW X ex (tT Γ W C e)
section
variable {M : Nm} {N : List Str} {Γ : Gm} {C : Cf} {lm : Bool} {k : Nat} {sc : Scope} {cf : Str → Bool} {W : XK} {X : Cx} {pos : Pos}
theorem HX.glb (hx : HX M N Γ C lm k sc cf W X) {x : Str} (h : glb sc x = true) : Gl X x := glb_ok (by rw [hx.sc]; exact h)
theorem snd_of {e : E} {ex : Expr} (hx : HX M N Γ C lm k sc cf W X) (h : plainT ex = true) (p : PE X ex (tE Γ W C e)) : Snd X Γ W C e ex where
  pe := p
  pt := PT.imp (pt_truth p (plainT_ok h X.env)) fun σ H Q ⟨μ, h, σa, r, rs, o⟩ => ⟨μ, h, σa, r, rs, (Out.bind (RA := RVh) o (.refl _ _)).imp fun x H1 ⟨μ1, h1, v, _, e1, r1, rv, o1⟩ => by
    cases q : truth h1 v with
    | none => rw [q] at o1; exact o1.elim
    | some b => rw [q] at o1; exact ⟨b, by rw [hx.K]; exact truth_ok r1 rv q, o1 μ1 H1 b e1 r1 rfl⟩⟩
  pw := fun ⟨_, _, _, e⟩ => by subst e; cases h
/-- two values, then an operation -/
theorem two_ok {a b : E} {f : AHp → AV → AV → Rs AV} {r : R2} {σ : St} {H : Hp} {Q : V → Hp → Prop} (hf : ∀ {μ h H v w x y Q}, Rel Γ μ h H → RV μ v x → RV μ w y → Out Γ W μ H (f h v w) RVh Q → r x y H Q)
    {μ : Mu} {h : AHp} {σa : Sl} (rl : Rel Γ μ h H) (rs : RS μ σa σ) (o : Out Γ W μ H ((evE C a σa h).bind fun v h1 => (evE C b σa h1).bind fun w h2 => f h2 v w) RVh Q) : tOp r (tE Γ W C a) (tE Γ W C b) σ H Q :=
  ⟨μ, h, σa, rl, rs, (Out.bind (RA := RVh) o (.refl _ _)).imp fun x H1 ⟨μ1, h1, v, _, e1, r1, rv, o1⟩ =>
    ⟨μ1, h1, σa, r1, rs.mono e1.le, (Out.bind (RA := RVh) o1 e1).imp fun y H2 ⟨μ2, h2, w, _, e2, r2, rw, o2⟩ => hf r2 (rv.mono e2.le) rw (o2.shift (e1.trans e2))⟩⟩
theorem s_var {i : Nat} {x : Str} (hx : HX M N Γ C lm k sc cf W X) (hi : N[i]? = some x) (hv : vis sc x = true) (hn : nmOk x = true) : PE X (.Name x pos) (tE Γ W C (.var i)) :=
  PE.imp (pe_var (i := i) (by rw [hx.hN]; exact hi) (by rw [hx.sc]; exact vis_ok hv) (nm_debug hn) (nm_cd hn)) fun σ H Q ⟨μ, h, σa, r, rs, o⟩ => by
    simp only [evE] at o
    split at o
    · rename_i v e
      obtain ⟨y, e2, rv⟩ := rs.2 i v e
      exact ⟨y, e2, o.here r rv⟩
    · exact o.elim
theorem s_int {i j} : PE X (.Constant (.int i) j pos) (tE Γ W C (.int i)) := PE.imp pe_int fun σ H Q ⟨μ, h, σa, r, rs, o⟩ => Out.here o r rfl
theorem s_bl {i j} : PE X (.Constant (.bool i) j pos) (tE Γ W C (.bl i)) := PE.imp pe_bl fun σ H Q ⟨μ, h, σa, r, rs, o⟩ => Out.here o r rfl
theorem s_non {j} : PE X (.Constant .none j pos) (tE Γ W C .non) := PE.imp pe_non fun σ H Q ⟨μ, h, σa, r, rs, o⟩ => Out.here o r rfl
theorem s_str {i j} : PE X (.Constant (.str i) j pos) (tE Γ W C (.str i)) := PE.imp pe_str fun σ H Q ⟨μ, h, σa, r, rs, o⟩ => Out.here o r rfl
theorem RV.any {μ : Mu} {v : AV} {x : V} (r : RV (fun _ => none) v x) : RV μ v x := RV.mono (fun _ _ q => by cases q) r
theorem s_glo {c : Nat} (hx : HX M N Γ C lm k sc cf W X) (hg : glb sc (M.con c) = true) (hn : nmOk (M.con c) = true) : PE X (.Name (M.con c) pos) (tE Γ W C (.glo c)) := by
  cases q : C.P.con c with
  | none =>
    refine ⟨fun pins s σ H Q I ⟨μ, h, σa, r, rs, o⟩ => ?_⟩
    simp only [evE, q] at o
    exact o.elim
  | some v =>
    obtain ⟨u, z, h1, h2, h3⟩ := hx.con c v q
    refine PE.imp (pe_glob (hx.glb hg) h1 h2 (nm_debug hn)) fun σ H Q ⟨μ, h, σa, r, rs, o⟩ => ?_
    simp only [evE, q] at o
    exact Out.here o r h3.any
theorem s_bin {o : BOp} {a b : E} {x y : Expr} (hx : HX M N Γ C lm k sc cf W X) (ha : Snd X Γ W C a x) (hb : Snd X Γ W C b y) : PE X (.BinOp x (opOf o) y pos) (tE Γ W C (.bin o a b)) :=
  PE.imp (pe_op (rBin_ok o) ha.pe hb.pe) fun σ H Q ⟨μ, h, σa, r, rs, q⟩ => two_ok (f := fun h v w => binA o h v w) (fun r rv rw q => by rw [hx.K]; exact bin_ok r rv rw q) r rs q
theorem s_neg {a : E} {x : Expr} (ha : Snd X Γ W C a x) : PE X (.UnaryOp .USub x pos) (tE Γ W C (.neg a)) :=
  PE.imp (pe_un un_neg ha.pe) fun σ H Q ⟨μ, h, σa, r, rs, q⟩ => ⟨μ, h, σa, r, rs, (Out.bind (RA := RVh) q (.refl _ _)).imp fun x H1 ⟨μ1, h1, v, _, e1, r1, rv, o1⟩ => by
    split at o1
    · obtain rfl := rv; exact ⟨_, rfl, (o1.shift e1).here r1 rfl⟩
    · exact o1.elim⟩
theorem s_not {a : E} {x : Expr} (hx : HX M N Γ C lm k sc cf W X) (ha : Snd X Γ W C a x) : Snd X Γ W C (.not a) (.UnaryOp .Not x pos) where
  pe := PE.imp (pe_notT ha.pe) fun σ H Q ⟨μ, h, σa, r, rs, q⟩ => by
    have q : Out Γ W μ H ((truthR (evE C a σa h)).bind fun b h1 => .ok (.bl (!b)) h1) RVh Q := q
    unfold truthR at q
    cases e : evE C a σa h with
    | no => rw [e] at q; exact q.elim
    | ex c fs h1 => rw [e] at q; exact ⟨μ, h, σa, r, rs, by rw [e]; exact q⟩
    | ok v h1 =>
      rw [e] at q
      refine ⟨μ, h, σa, r, rs, ?_⟩
      rw [e]
      intro μ1 H1 x e1 r1 rv
      have q : Out Γ W μ H ((match truth h1 v with | some b => Rs.ok b h1 | none => Rs.no).bind fun b h1 => .ok (.bl (!b)) h1) RVh Q := q
      cases t : truth h1 v with
      | none => rw [t] at q; exact q.elim
      | some b => rw [t] at q; exact ⟨b, by rw [hx.K]; exact truth_ok r1 rv t, q μ1 H1 _ e1 r1 rfl⟩
  pt := PT.imp (pt_not ha.pt) fun σ H Q ⟨μ, h, σa, r, rs, q⟩ => by
    have q : Out Γ W μ H (truthR ((truthR (evE C a σa h)).bind fun b h1 => .ok (.bl (!b)) h1)) RB Q := q
    refine ⟨μ, h, σa, r, rs, ?_⟩
    cases e : truthR (evE C a σa h) with
    | no => rw [e] at q; exact q.elim
    | ex c fs h1 => rw [e] at q; exact q
    | ok b h1 => rw [e] at q; exact fun μ1 H1 x e1 r1 rv => by obtain rfl := rv; exact q μ1 H1 _ e1 r1 rfl
  pw := fun ⟨_, _, _, e⟩ => by cases e
/-- a value's truth known: what the layer asks -/
theorem tru_step {a : E} {σ : St} {H : Hp} {μ : Mu} {h : AHp} {σa : Sl} {α β : Type} {R : Mu → Hp → α → β → Prop} {Q : β → Hp → Prop} {f : AV → Bool → AHp → Rs α} {Q' : V → Hp → Prop} (hK : X.K = Γ.K) (r : Rel Γ μ h H) (rs : RS μ σa σ)
    (o : Out Γ W μ H ((evE C a σa h).bind fun v h1 => match truth h1 v with | some b => f v b h1 | none => .no) R Q)
    (hq : ∀ μ1 h1 H1 v x b, Ext μ H μ1 H1 → Rel Γ μ1 h1 H1 → RV μ1 v x → TruV X.K x H1 b → Out Γ W μ H (f v b h1) R Q → Q' x H1) : tE Γ W C a σ H Q' :=
  ⟨μ, h, σa, r, rs, (Out.bind (RA := RVh) o (.refl _ _)).imp fun x H1 ⟨μ1, h1, v, _, e1, r1, rv, o1⟩ => by
    cases t : truth h1 v with
    | none => rw [t] at o1; exact o1.elim
    | some b => rw [t] at o1; exact hq μ1 h1 H1 v x b e1 r1 rv (by rw [hK]; exact truth_ok r1 rv t) o1⟩
theorem evE_and {a b : E} {σ : Sl} {h : AHp} : evE C (.and a b) σ h = (evE C a σ h).bind fun v h1 => match truth h1 v with | some t => (match t with | true => evE C b σ h1 | false => .ok v h1) | none => .no := by
  show Rs.bind _ _ = Rs.bind _ _
  congr 1
  funext v h1
  cases truth h1 v with
  | none => rfl
  | some t => cases t <;> rfl
theorem evE_or {a b : E} {σ : Sl} {h : AHp} : evE C (.or a b) σ h = (evE C a σ h).bind fun v h1 => match truth h1 v with | some t => (match t with | true => .ok v h1 | false => evE C b σ h1) | none => .no := by
  show Rs.bind _ _ = Rs.bind _ _
  congr 1
  funext v h1
  cases truth h1 v with
  | none => rfl
  | some t => cases t <;> rfl
/-- .. of a test: the truth of both is the truth of the one that is handed back -/
theorem tru_and {a b : E} {σ : Sl} {h : AHp} : truthR (evE C (.and a b) σ h) = (truthR (evE C a σ h)).bind fun t h1 => if t then truthR (evE C b σ h1) else .ok false h1 := by
  rw [evE_and]
  unfold truthR
  cases evE C a σ h with
  | no => rfl
  | ex _ _ _ => rfl
  | ok v h1 =>
    show Rs.bind (match truth h1 v with | some t => (match t with | true => evE C b σ h1 | false => .ok v h1) | none => .no) _ = Rs.bind (match truth h1 v with | some b => Rs.ok b h1 | none => Rs.no) _
    cases e : truth h1 v with
    | none => rfl
    | some t =>
      cases t with
      | true => rfl
      | false => show (match truth h1 v with | some b => Rs.ok b h1 | none => Rs.no) = _; rw [e]; rfl
theorem tru_or {a b : E} {σ : Sl} {h : AHp} : truthR (evE C (.or a b) σ h) = (truthR (evE C a σ h)).bind fun t h1 => if t then .ok true h1 else truthR (evE C b σ h1) := by
  rw [evE_or]
  unfold truthR
  cases evE C a σ h with
  | no => rfl
  | ex _ _ _ => rfl
  | ok v h1 =>
    show Rs.bind (match truth h1 v with | some t => (match t with | true => .ok v h1 | false => evE C b σ h1) | none => .no) _ = Rs.bind (match truth h1 v with | some b => Rs.ok b h1 | none => Rs.no) _
    cases e : truth h1 v with
    | none => rfl
    | some t =>
      cases t with
      | false => rfl
      | true => show (match truth h1 v with | some b => Rs.ok b h1 | none => Rs.no) = _; rw [e]; rfl
/-- the rest of an and, an or -/
structure SndB (X : Cx) (Γ : Gm) (W : XK) (C : Cf) (op : BoolOp) (e : E) (es : List Expr) : Prop where
  pe : ∀ pos, PE X (.BoolOp op es pos) (tE Γ W C e)
  pw : ∀ pos, PW X (.BoolOp op es pos) (tT Γ W C e)
theorem sb_one {op : BoolOp} {e : E} {x : Expr} (h : Snd X Γ W C e x) : SndB X Γ W C op e [x] where
  pe := fun pos => pe_one h.pe
  pw := fun pos => by
    cases op with
    | And => exact pw_and1 h.pt
    | Or => exact pw_or1 h.pt
theorem sb_and {a b : E} {x y : Expr} {r : List Expr} (hx : HX M N Γ C lm k sc cf W X) (ha : Snd X Γ W C a x) (hb : SndB X Γ W C .And b (y :: r)) : SndB X Γ W C .And (.and a b) (x :: y :: r) where
  pe := fun pos => PE.imp (pe_andT ha.pe (hb.pe pos)) fun σ H Q ⟨μ, h, σa, rl, rs, o⟩ => by
    rw [evE_and] at o
    refine tru_step hx.K rl rs o fun μ1 h1 H1 v x t e1 r1 rv tv o1 => ⟨t, tv, ?_⟩
    cases t with
    | true => exact ⟨μ1, h1, σa, r1, rs.mono e1.le, o1.shift e1⟩
    | false => exact (o1.shift e1).here r1 rv
  pw := fun pos => ⟨fun wh pins s σ H Q I ⟨μ, h, σa, rl, rs, o⟩ => (pw_and ha.pt (hb.pw pos)).run wh pins s σ H Q I (by
    rw [tru_and] at o
    refine ⟨μ, h, σa, rl, rs, (Out.bind (RA := RB) o (.refl _ _)).imp fun t H1 ⟨μ1, h1, b', _, e1, r1, rv, o1⟩ => ?_⟩
    obtain rfl := rv
    cases b' with
    | true => exact ⟨μ1, h1, σa, r1, rs.mono e1.le, o1.shift e1⟩
    | false => exact (Out.shift o1 e1).here r1 rfl)⟩
theorem sb_or {a b : E} {x y : Expr} {r : List Expr} (hx : HX M N Γ C lm k sc cf W X) (ha : Snd X Γ W C a x) (hb : SndB X Γ W C .Or b (y :: r)) : SndB X Γ W C .Or (.or a b) (x :: y :: r) where
  pe := fun pos => PE.imp (pe_orT ha.pe (hb.pe pos)) fun σ H Q ⟨μ, h, σa, rl, rs, o⟩ => by
    rw [evE_or] at o
    refine tru_step hx.K rl rs o fun μ1 h1 H1 v x t e1 r1 rv tv o1 => ⟨t, tv, ?_⟩
    cases t with
    | true => exact (o1.shift e1).here r1 rv
    | false => exact ⟨μ1, h1, σa, r1, rs.mono e1.le, o1.shift e1⟩
  pw := fun pos => ⟨fun wh pins s σ H Q I ⟨μ, h, σa, rl, rs, o⟩ => (pw_or ha.pt (hb.pw pos)).run wh pins s σ H Q I (by
    rw [tru_or] at o
    refine ⟨μ, h, σa, rl, rs, (Out.bind (RA := RB) o (.refl _ _)).imp fun t H1 ⟨μ1, h1, b', _, e1, r1, rv, o1⟩ => ?_⟩
    obtain rfl := rv
    cases b' with
    | true => exact (Out.shift o1 e1).here r1 rfl
    | false => exact ⟨μ1, h1, σa, r1, rs.mono e1.le, o1.shift e1⟩)⟩
theorem s_boolop {op : BoolOp} {e : E} {es : List Expr} (h : SndB X Γ W C op e es) : Snd X Γ W C e (.BoolOp op es pos) := ⟨h.pe pos, (h.pw pos).pt, fun _ => h.pw pos⟩
theorem cmpA_bl {o : COp} {h h' : AHp} {v w x : AV} (e : cmpA o h v w = .ok x h') : ∃ b, x = .bl b := by
  have lf : ∀ {b : Option Bool} {x : AV}, lift h b = .ok x h' → ∃ b, x = .bl b := fun {b x} e => by
    cases b with
    | none => cases e
    | some b => cases e; exact ⟨b, rfl⟩
  cases o <;> simp only [cmpA] at e
  · exact lf e
  · exact lf e
  · split at e <;> first | (cases e; exact ⟨_, rfl⟩) | cases e
  · split at e <;> first | (cases e; exact ⟨_, rfl⟩) | cases e
  · split at e <;> first | (cases e; exact ⟨_, rfl⟩) | cases e
  · split at e <;> first | (cases e; exact ⟨_, rfl⟩) | cases e
  · exact lf e
  · exact lf e
  · split at e <;> first | (cases e; exact ⟨_, rfl⟩) | cases e
  · split at e <;> first | (cases e; exact ⟨_, rfl⟩) | cases e
theorem bool_out {r : Rs AV} {μ : Mu} {H : Hp} {Q : Bool → Hp → Prop} (hb : ∀ v h', r = .ok v h' → ∃ b, v = .bl b) (o : Out Γ W μ H (truthR r) RB Q) : Out Γ W μ H r RVh (fun x H => ∃ k, x = .bl k ∧ Q k H) := by
  cases r with
  | no => exact o
  | ex c fs h => exact o
  | ok v h =>
    obtain ⟨b, rfl⟩ := hb v h rfl
    exact fun μ1 H1 x e1 r1 rv => by obtain rfl := rv; exact ⟨b, rfl, o μ1 H1 b e1 r1 rfl⟩
theorem bind_ok {α β : Type} {r : Rs α} {f : α → AHp → Rs β} {b : β} {h' : AHp} (e : r.bind f = .ok b h') : ∃ a h, r = .ok a h ∧ f a h = .ok b h' := by
  cases r with
  | ok a h => exact ⟨a, h, rfl, e⟩
  | ex _ _ _ => cases e
  | no => cases e
theorem s_cmp {o : COp} {a b : E} {x y : Expr} (hx : HX M N Γ C lm k sc cf W X) (hs : noSet y = true) (ha : Snd X Γ W C a x) (hb : Snd X Γ W C b y) : Snd X Γ W C (.cmp o a b) (.Compare x [cOf o] [y] pos) where
  pe := PE.imp (pe_cmpR (rCmp_ok hx.room o) ha.pe hb.pe (noSet_mark hs _)) fun σ H Q ⟨μ, h, σa, r, rs, q⟩ => two_ok (f := fun h v w => cmpA o h v w) (fun r rv rw q => by rw [hx.K]; exact cmp_ok r rv rw q) r rs q
  pt := PT.imp (pt_cmpR (rCmp_ok hx.room o) ha.pe hb.pe (noSet_mark hs _)) fun σ H Q ⟨μ, h, σa, r, rs, q⟩ =>
    two_ok (f := fun h v w => cmpA o h v w) (fun r rv rw q => by rw [hx.K]; exact cmp_ok r rv rw q) r rs (bool_out (fun v h' e => by
      obtain ⟨_, _, _, e⟩ := bind_ok e
      obtain ⟨_, _, _, e⟩ := bind_ok e
      exact cmpA_bl e) q)
  pw := fun ⟨_, _, _, e⟩ => by cases e
theorem chain_ok {o o2 : COp} {a b c : E} {σ : St} {H : Hp} {Q : V → Hp → Prop} (hK : X.K = Γ.K) {μ : Mu} {h : AHp} {σa : Sl} (r : Rel Γ μ h H) (rs : RS μ σa σ) (q : Out Γ W μ H (evE C (.cmp2 o o2 a b c) σa h) RVh Q) :
    tChain (rCmp X.K o) (rCmp X.K o2) (tE Γ W C a) (tE Γ W C b) (tE Γ W C c) σ H Q := by
  refine ⟨μ, h, σa, r, rs, (Out.bind (RA := RVh) q (.refl _ _)).imp fun x H1 ⟨μ1, h1, v, _, e1, r1, rv, o1⟩ => ?_⟩
  refine ⟨μ1, h1, σa, r1, rs.mono e1.le, (Out.bind (RA := RVh) o1 e1).imp fun y H2 ⟨μ2, h2, w, _, e2, r2, rw_, o2'⟩ => ?_⟩
  rw [hK]
  refine cmp_ok r2 (rv.mono e2.le) rw_ ((Out.bind (RA := RVh) o2' (e1.trans e2)).imp fun z H3 ⟨μ3, h3, t, et, e3, r3, rt, o3⟩ => ?_)
  obtain ⟨bb, rfl⟩ := cmpA_bl et
  obtain rfl := rt
  refine ⟨bb, rfl, ?_⟩
  cases bb with
  | true =>
    rw [if_pos rfl]
    exact ⟨μ3, h3, σa, r3, rs.mono (fun i a q => e3.le i a (e2.le i a (e1.le i a q))), (Out.bind (RA := RVh) o3 ((e1.trans e2).trans e3)).imp fun u H4 ⟨μ4, h4, uu, _, e4, r4, ru, o4⟩ =>
      cmp_ok r4 ((rw_.mono e3.le).mono e4.le) ru (o4.shift (((e1.trans e2).trans e3).trans e4))⟩
  | false =>
    rw [if_neg (by simp)]
    exact (o3.shift ((e1.trans e2).trans e3)).here r3 rfl
theorem s_cmp2 {o o2 : COp} {a b c : E} {x y z : Expr} (hx : HX M N Γ C lm k sc cf W X) (hs : noSet z = true) (ha : Snd X Γ W C a x) (hb : Snd X Γ W C b y) (hc : Snd X Γ W C c z) : Snd X Γ W C (.cmp2 o o2 a b c) (.Compare x [cOf o, cOf o2] [y, z] pos) where
  pe := PE.imp (pe_chain (rCmp_ok hx.room o) (rCmp_ok hx.room o2) ha.pe hb.pe hc.pe (noSet_mark hs _)) fun σ H Q ⟨μ, h, σa, r, rs, q⟩ => chain_ok hx.K r rs q
  pt := PT.imp (pt_chain (rCmp_ok hx.room o) (rCmp_ok hx.room o2) ha.pe hb.pe hc.pe (noSet_mark hs _)) fun σ H Q ⟨μ, h, σa, r, rs, q⟩ => chain_ok hx.K r rs (bool_out (fun v h' e => by
      obtain ⟨_, _, _, e⟩ := bind_ok e
      obtain ⟨_, _, _, e⟩ := bind_ok e
      obtain ⟨t, h3, e2, e⟩ := bind_ok e
      obtain ⟨bb, rfl⟩ := cmpA_bl e2
      cases bb with
      | true =>
        obtain ⟨_, _, _, e⟩ := bind_ok e
        exact cmpA_bl e
      | false => cases e; exact ⟨_, rfl⟩) q)
  pw := fun ⟨_, _, _, e⟩ => by cases e
theorem s_ite {c a b : E} {z x y : Expr} (hc : Snd X Γ W C c z) (ha : Snd X Γ W C a x) (hb : Snd X Γ W C b y) : PE X (.IfExp z x y pos) (tE Γ W C (.ite c a b)) :=
  PE.imp (pe_ifExp hc.pt ha.pe hb.pe) fun σ H Q ⟨μ, h, σa, r, rs, q⟩ => ⟨μ, h, σa, r, rs, (Out.bind (RA := RB) q (.refl _ _)).imp fun t H1 ⟨μ1, h1, b', _, e1, r1, rv, o1⟩ => by
    obtain rfl := rv
    cases b' with
    | true => exact ⟨μ1, h1, σa, r1, rs.mono e1.le, o1.shift e1⟩
    | false => exact ⟨μ1, h1, σa, r1, rs.mono e1.le, o1.shift e1⟩⟩
end
end AH

set_option Elab.async false
set_option linter.all false
set_option maxRecDepth 100000
set_option maxHeartbeats 4000000
/-! AH7: argument lists, displays, items, slices, calls, methods. -/
namespace AH
open PySem PySem.Spec L2
section
variable {M : Nm} {N : List Str} {Γ : Gm} {C : Cf} {lm : Bool} {k : Nat} {sc : Scope} {cf : Str → Bool} {W : XK} {X : Cx} {pos : Pos}
theorem l_nil : PA X [] (tL Γ W C .nil) := PA.imp pa_nil fun σ H Q ⟨μ, h, σa, r, rs, o⟩ => Out.here o r .nil
theorem l_cons {e : E} {r : L} {x : Expr} {xs : List Expr} (hs : noStar x = true) (he : PE X x (tE Γ W C e)) (hr : PA X xs (tL Γ W C r)) : PA X (x :: xs) (tL Γ W C (.cons e r)) :=
  PA.imp (pa_cons he hr (star1 hs _ _)) fun σ H Q ⟨μ, h, σa, rl, rs, o⟩ => ⟨μ, h, σa, rl, rs, (Out.bind (RA := RVh) o (.refl _ _)).imp fun x H1 ⟨μ1, h1, v, _, e1, r1, rv, o1⟩ =>
    ⟨μ1, h1, σa, r1, rs.mono e1.le, (Out.bind (RA := RVsh) o1 e1).imp fun ys H2 ⟨μ2, h2, vs, _, e2, r2, rvs, o2⟩ => (Out.shift o2 (e1.trans e2)).here r2 (.cons (rv.mono e2.le) rvs)⟩⟩
theorem s_lst {es : L} {xs : List Expr} (h : PA X xs (tL Γ W C es)) : PE X (.List xs pos) (tE Γ W C (.lst es)) :=
  PE.imp (pe_lst h) fun σ H Q ⟨μ, h, σa, rl, rs, o⟩ => ⟨μ, h, σa, rl, rs, (Out.bind (RA := RVsh) o (.refl _ _)).imp fun ys H1 ⟨μ1, h1, vs, _, e1, r1, rv, o1⟩ => by
    split at o1
    · rename_i c
      exact ⟨by rw [← Pd.length rv]; exact isz_le c, fun p hp => (o1.shift e1).new r1 hp ⟨_, upd_same, rv.mono r1.addLe⟩⟩
    · exact o1.elim⟩
theorem s_tup {es : L} {xs : List Expr} {x1} (h : PA X xs (tL Γ W C es)) : PE X (.Tuple xs x1 pos) (tE Γ W C (.tup es)) :=
  PE.imp (pe_tup h) fun σ H Q ⟨μ, h, σa, rl, rs, o⟩ => ⟨μ, h, σa, rl, rs, (Out.bind (RA := RVsh) o (.refl _ _)).imp fun ys H1 ⟨μ1, h1, vs, _, e1, r1, rv, o1⟩ => by
    split at o1
    · rename_i c
      exact ⟨by rw [← Pd.length rv]; exact isz_le c, fun p hp => (o1.shift e1).new r1 hp ⟨_, upd_same, rv.mono r1.addLe⟩⟩
    · exact o1.elim⟩
theorem s_sub {a b : E} {x y : Expr} (hx : HX M N Γ C lm k sc cf W X) (hs : noSlice y = true) (ha : PE X x (tE Γ W C a)) (hb : PE X y (tE Γ W C b)) : PE X (.Subscript x y pos) (tE Γ W C (.sub a b)) :=
  PE.imp (pe_ix (rIxA_ok hx.room) ha hb (noSlice_ok hs)) fun σ H Q ⟨μ, h, σa, r, rs, q⟩ => two_ok (f := fun h v w => ixA h v w) (fun r rv rw q => by rw [hx.K]; exact ix_ok r rv rw q) r rs q
/-- a part of a slice -/
def tP (Γ : Gm) (W : XK) (C : Cf) (e : E) : TO := fun σ H Q => ∃ μ h σa, Rel Γ μ h H ∧ RS μ σa σ ∧ Out Γ W μ H ((evE C e σa h).bind fun v h1 => match optP e v with | some l => Rs.ok l h1 | none => .no) (fun _ _ a b => a = b) Q
theorem PO.imp {e : Option Expr} {t t' : TO} (p : PO X e t) (f : ∀ σ H Q, t' σ H Q → t σ H Q) : PO X e t' := ⟨fun pins s σ H Q I h => p.run pins s σ H Q I (f σ H Q h)⟩
theorem p_none : PO X none (tP Γ W C .non) := PO.imp po_none fun σ H Q ⟨μ, h, σa, r, rs, o⟩ => Out.here (x := none) o r rfl
theorem p_some {e : E} {x : Expr} (hn : e ≠ .non) (h : PE X x (tE Γ W C e)) : PO X (some x) (tP Γ W C e) := PO.imp (po_some h) fun σ H Q ⟨μ, h, σa, r, rs, o⟩ =>
  ⟨μ, h, σa, r, rs, (Out.bind (RA := RVh) o (.refl _ _)).imp fun y H1 ⟨μ1, h1, v, ev, e1, r1, rv, o1⟩ => by
    cases q : optP e v with
    | none => rw [q] at o1; exact o1.elim
    | some l =>
      rw [q] at o1
      unfold optP at q
      split at q
      · exact absurd rfl hn
      · exact absurd rfl hn
      · cases q; obtain rfl := rv; exact ⟨_, rfl, Out.here (Out.shift o1 e1) r1 rfl⟩
      · cases q⟩
theorem s_sl {a lo hi : E} {x : Expr} {l u : Option Expr} {p2 : Pos} (hx : HX M N Γ C lm k sc cf W X) (ha : PE X x (tE Γ W C a)) (hl : PO X l (tP Γ W C lo)) (hu : PO X u (tP Γ W C hi)) : PE X (.Subscript x (.Slice l u none p2) pos) (tE Γ W C (.sl a lo hi)) :=
  PE.imp (pe_slice rSlAll_ok ha hl hu) fun σ H Q ⟨μ, h, σa, r, rs, q⟩ => by
    refine ⟨μ, h, σa, r, rs, (Out.bind (RA := RVh) q (.refl _ _)).imp fun y H1 ⟨μ1, h1, v, _, e1, r1, rv, o1⟩ => ?_⟩
    refine ⟨μ1, h1, σa, r1, rs.mono e1.le, (Out.bind (RA := fun _ _ a b => a = b) o1 e1).imp fun l' H2 ⟨μ2, h2, l, _, e2, r2, rl, o2⟩ => ?_⟩
    obtain rfl := rl
    refine ⟨μ2, h2, σa, r2, (rs.mono e1.le).mono e2.le, (Out.bind (RA := fun _ _ a b => a = b) o2 (e1.trans e2)).imp fun u' H3 ⟨μ3, h3, u, _, e3, r3, ru, o3⟩ => ?_⟩
    obtain rfl := ru
    rw [hx.K]
    exact sl_ok r3 ((rv.mono e2.le).mono e3.le) (o3.shift ((e1.trans e2).trans e3))
/-! ### calls -/
theorem pe_callS0 {f : Addr} {fd : FuncData} {ps : List Str} {sp : Sp} {E : St → XK} {x : Str} {p : Pos} {CX : CXT} (F : FnOk X.prog X.w X.K X.mg X.base CX k f fd ps sp) (hr : Room k X.A) (hg : Gl X x) (hm : X.mg x = some (.ref f)) (hk : PySem.W.keepIn X.K (.ref f) = true) (hb : Binds X.K fd ps []) (hx : ∀ σ, PassesAt CX X σ (E σ))
    (hdb : (x == ("__debug__" : Str)) = false) : PE X (.Call (.Name x p) [] [] pos) (tCallS sp E tNil) := by
  refine ⟨fun pins s σ H Q I h => ?_⟩
  refine wpAny_Call_Name_kw (ld_glob I hg hm ?_ hdb)
  exact PySem.W.callWith_K0 I.kIn hk (run_fnS (us := []) F hr hb (hx σ) I .nil h)
theorem call_go {f : Nat} {es : L} (hl : ∀ args h, C.callf f args h ≠ .no → args.length = (M.ps f).length) (σ : St) (H : Hp) (Q : VK) (h : tE Γ W C (.call f es) σ H Q) :
    tL Γ W C es σ H fun vs H1 => spF Γ (C.callf f) (M.ps f).length vs H1 Q (WE (fun c d _ H => W c d H) σ) := by
  obtain ⟨μ, h, σa, rl, rs, o⟩ := h
  exact ⟨μ, h, σa, rl, rs, (Out.bind (RA := RVsh) o (.refl _ _)).imp fun ys H1 ⟨μ1, h1, vs, _, e1, r1, rv, o1⟩ => by
    have nn : C.callf f vs h1 ≠ .no := fun z => by rw [z] at o1; exact o1
    exact ⟨by rw [← Pd.length rv]; exact hl vs h1 nn, μ1, h1, vs, r1, rv, o1.shift e1⟩⟩
theorem s_call0 {f : Nat} {p : Pos} (hx : HX M N Γ C lm k sc cf W X) (hf : M.has f = true) (hg : glb sc (M.fn f) = true) (hn : nmOk (M.fn f) = true) : PE X (.Call (.Name (M.fn f) p) [] [] pos) (tE Γ W C (.call f .nil)) := by
  obtain ⟨hl, fa, fd, hm, hk, hb, F, _⟩ := hx.fn f hf
  refine PE.imp (pe_callS0 F hx.room (hx.glb hg) hm hk hb (fun σ => passAt hx.tk σ) (nm_debug hn)) fun σ H Q q => ?_
  obtain ⟨μ, h, σa, rl, rs, o⟩ := call_go hl σ H Q q
  exact Out.here (x := []) o rl .nil
theorem s_call {f : Nat} {es : L} {x : Expr} {xs : List Expr} {p : Pos} (hx : HX M N Γ C lm k sc cf W X) (hf : M.has f = true) (hg : glb sc (M.fn f) = true) (hn : nmOk (M.fn f) = true) (hs : noStars (x :: xs) = true) (h : PA X (x :: xs) (tL Γ W C es)) :
    PE X (.Call (.Name (M.fn f) p) (x :: xs) [] pos) (tE Γ W C (.call f es)) := by
  obtain ⟨hl, fa, fd, hm, hk, hb, F, _⟩ := hx.fn f hf
  have hs' : noStar x = true ∧ noStars xs = true := by
    unfold noStars at hs; rw [List.all_cons, Bool.and_eq_true] at hs; exact hs
  exact PE.imp (pe_callS F hx.room (hx.glb hg) hm hk hb (fun σ => passAt hx.tk σ) h (nm_debug hn) (star1 hs'.1 _ _) (stars_any hs'.2 _ _)) fun σ H Q q => call_go hl σ H Q q
/-! ### built-ins -/
def biIsTy : Bi → Bool | .int => true | .str => true | _ => false
theorem bi_boot (b : Bi) : bootBuiltins (biS b) = some (biV b) := by cases b <;> decide +kernel
theorem bi_in (b : Bi) : biS b ∈ bNames := by cases b <;> decide +kernel
theorem bi_nm (b : Bi) : nmOk (biS b) = true := by cases b <;> decide +kernel
theorem s_blt {b : Bi} {es : L} {x : Expr} {xs : List Expr} {p : Pos} (hx : HX M N Γ C lm k sc cf W X) (hg : glb sc (biS b) = true) (hs : noStars (x :: xs) = true) (h : PA X (x :: xs) (tL Γ W C es)) :
    PE X (.Call (.Name (biS b) p) (x :: xs) [] pos) (tE Γ W C (.blt b es)) := by
  have hs' : noStar x = true ∧ noStars xs = true := by
    unfold noStars at hs; rw [List.all_cons, Bool.and_eq_true] at hs; exact hs
  have go : ∀ σ H Q, tE Γ W C (.blt b es) σ H Q → tCB (rBi X.K b) (tL Γ W C es) σ H Q := fun σ H Q ⟨μ, h, σa, rl, rs, o⟩ =>
    ⟨μ, h, σa, rl, rs, (Out.bind (RA := RVsh) o (.refl _ _)).imp fun ys H1 ⟨μ1, h1, vs, _, e1, r1, rv, o1⟩ => by rw [hx.K]; exact blt_ok r1 rv (o1.shift e1)⟩
  have hm := hx.bl _ (bi_in b)
  have hgl : Gl X (biS b) := hx.glb hg
  have hr := rBi_ok (X := X) hx.calm b
  have hv := bi_boot b
  have hnm := nm_name (bi_nm b)
  have hdb := nm_debug (bi_nm b)
  cases b with
  | len => exact PE.imp (pe_callB hr hgl hm hv h hnm hdb (star1 hs'.1 _ _) (stars_any hs'.2 _ _)) go
  | max2 => exact PE.imp (pe_callB hr hgl hm hv h hnm hdb (star1 hs'.1 _ _) (stars_any hs'.2 _ _)) go
  | min2 => exact PE.imp (pe_callB hr hgl hm hv h hnm hdb (star1 hs'.1 _ _) (stars_any hs'.2 _ _)) go
  | maxL => exact PE.imp (pe_callB hr hgl hm hv h hnm hdb (star1 hs'.1 _ _) (stars_any hs'.2 _ _)) go
  | minL => exact PE.imp (pe_callB hr hgl hm hv h hnm hdb (star1 hs'.1 _ _) (stars_any hs'.2 _ _)) go
  | sum => exact PE.imp (pe_callB hr hgl hm hv h hnm hdb (star1 hs'.1 _ _) (stars_any hs'.2 _ _)) go
  | all => exact PE.imp (pe_callB hr hgl hm hv h hnm hdb (star1 hs'.1 _ _) (stars_any hs'.2 _ _)) go
  | any => exact PE.imp (pe_callB hr hgl hm hv h hnm hdb (star1 hs'.1 _ _) (stars_any hs'.2 _ _)) go
  | int => exact PE.imp (pe_callTy hr hgl hm hv h hnm hdb (star1 hs'.1 _ _) (stars_any hs'.2 _ _)) go
  | str => exact PE.imp (pe_callTy hr hgl hm hv h hnm hdb (star1 hs'.1 _ _) (stars_any hs'.2 _ _)) go
/-! ### isinstance -/
def tyN : Ty → Str
  | .list => "list" | .tuple => "tuple" | .int => "int" | .bool => "bool" | .str => "str" | .dict => "dict"
theorem ty_boot (t : Ty) : bootBuiltins (tyN t) = some (.type (tyS t)) := by cases t <;> decide +kernel
theorem ty_in (t : Ty) : tyN t ∈ bNames := by cases t <;> decide +kernel
theorem ty_nm (t : Ty) : nmOk (tyN t) = true := by cases t <;> decide +kernel
theorem pe_ty (hx : HX M N Γ C lm k sc cf W X) (t : Ty) (hg : glb sc (tyN t) = true) : PE X (.Name (tyN t) pos) (tC (.ty (tyS t))) :=
  pe_bltn (hx.glb hg) (hx.bl _ (ty_in t)) (ty_boot t) rfl (nm_name (ty_nm t)) (nm_debug (ty_nm t))
def tTys : List Ty → TA
  | [] => tNil
  | t :: r => tCons (tC (.ty (tyS t))) (tTys r)
theorem tTys_all : ∀ (ts : List Ty) (σ : St) (H : Hp) (Q : List V → Hp → Prop), Q (ts.map fun t => .ty (tyS t)) H → tTys ts σ H Q
  | [], _, _, _, h => h
  | t :: r, σ, H, Q, h => tTys_all r σ H _ h
theorem paired_ty : ∀ ts : List Ty, Paired ClsV (ts.map fun t => V.ty (tyS t)) (ts.map fun t => Value.type (tyS t))
  | [] => .nil
  | t :: r => .cons (.ty _) (paired_ty r)
theorem TyX.upd {K : PySem.W.Frag} {H : Hp} {x : V} {t : Value} {p : Addr} {u : HO} (hp : H p = none) (h : TyX K H x t) : TyX K (upd H p u) x t := by
  have ne : ∀ {a o}, H a = some o → L2.upd H p u a = some o := fun {a o} e => by rw [upd_ne (fun z => by rw [z, hp] at e; cases e)]; exact e
  cases h with
  | base b =>
    cases b with
    | non => exact .base .non
    | bl _ => exact .base (.bl _)
    | int _ => exact .base (.int _)
    | str _ => exact .base (.str _)
    | flt _ => exact .base (.flt _)
    | lst e => exact .base (.lst (ne e))
    | frz e => exact .base (.frz (ne e))
    | tup e => exact .base (.tup (ne e))
    | dK e => exact .base (.dK (ne e))
    | dT e => exact .base (.dT (ne e))
    | ins e a b c d f => exact .base (.ins (ne e) a b c d f)
  | byt _ => exact .byt _
  | set e => exact .set (ne e)
  | kList e c => exact .kList e c
  | kTuple e c => exact .kTuple e c
  | kDict e c => exact .kDict e c
  | fTuple e => exact .fTuple (ne e)
  | fDict e => exact .fDict (ne e)
theorem isi_nm : nmOk ("isinstance" : Str) = true := by decide +kernel
theorem isa_out {e : E} {one : Bool} {ts : List Ty} {σ : St} {H : Hp} {Q : V → Hp → Prop} (h : tE Γ W C (.isa e one ts) σ H Q) :
    tE Γ W C e σ H fun x H1 => ∃ μ h1 kd, Rel Γ μ h1 H1 ∧ TyX Γ.K H1 x (.type (kdS kd)) ∧ ∀ H2 μ2, Ext μ H1 μ2 H2 → Rel Γ μ2 h1 H2 → Q (.bl (ts.any (kTab kd))) H2 := by
  obtain ⟨μ, h, σa, rl, rs, o⟩ := h
  refine ⟨μ, h, σa, rl, rs, (Out.bind (RA := RVh) o (.refl _ _)).imp fun x H1 ⟨μ1, h1, v, _, e1, r1, rv, o1⟩ => ?_⟩
  have o1 : Out Γ W μ H (lift h1 (tyAny h1 v ts)) RVh Q := o1
  unfold tyAny at o1
  cases q : kdA h1 v with
  | none => rw [q] at o1; exact o1.elim
  | some kd =>
    rw [q] at o1
    exact ⟨μ1, h1, kd, r1, kd_ok r1 rv q, fun H2 μ2 e2 r2 => o1 μ2 H2 _ (e1.trans e2) r2 rfl⟩
theorem s_isa1 {e : E} {t : Ty} {x : Expr} {p p2 : Pos} (hx : HX M N Γ C lm k sc cf W X) (hg : glb sc "isinstance" = true) (hg2 : glb sc (tyN t) = true) (hs : noStar x = true) (h : PE X x (tE Γ W C e)) :
    PE X (.Call (.Name "isinstance" p) [x, .Name (tyN t) p2] [] pos) (tE Γ W C (.isa e true [t])) :=
  PE.imp (pe_callB call_isi (hx.glb hg) (hx.bl _ (by decide +kernel)) (by decide +kernel) (pa_cons h (pa_cons (pe_ty hx t hg2) pa_nil (star1 rfl _ _)) (star1 hs _ _)) (nm_name isi_nm) (nm_debug isi_nm) (star1 hs _ _) (stars_any rfl _ _)) fun σ H Q q => by
    obtain ⟨μ, hh, σa, rl, rs, o⟩ := isa_out q
    refine ⟨μ, hh, σa, rl, rs, o.imp fun y H1 ⟨μ1, h1, kd, r1, ty, q1⟩ => ?_⟩
    rw [hx.K]
    refine ⟨y, .ty (tyS t), _, _, _, rfl, .ty _, ty, kit_ty (kTab_ok kd t), ?_⟩
    have := q1 H1 μ1 (.refl _ _) r1
    simpa using this
def tysOk (sc : Scope) : List Ty → List Expr → Bool
  | [], [] => true
  | t :: r, .Name x _ :: s => decide (x = tyN t) && glb sc x && tysOk sc r s
  | _, _ => false
theorem pa_tys (hx : HX M N Γ C lm k sc cf W X) : ∀ {ts : List Ty} {es : List Expr}, tysOk sc ts es = true → PA X es (tTys ts)
  | [], [], _ => pa_nil
  | t :: r, .Name x p :: s, h => by
    unfold tysOk at h
    simp only [Bool.and_eq_true, decide_eq_true_eq] at h
    obtain ⟨⟨h1, h2⟩, h3⟩ := h
    subst h1
    exact pa_cons (pe_ty hx t h2) (pa_tys hx h3) (star1 rfl _ _)
  | [], e :: _, h => by cases e <;> cases h
  | _ :: _, [], h => by cases h
  | t :: r, e :: s, h => by
    cases e with
    | Name x p =>
      unfold tysOk at h
      simp only [Bool.and_eq_true, decide_eq_true_eq] at h
      obtain ⟨⟨h1, h2⟩, h3⟩ := h
      subst h1
      exact pa_cons (pe_ty hx t h2) (pa_tys hx h3) (star1 rfl _ _)
    | _ => cases h
theorem s_isaT {e : E} {ts : List Ty} {x : Expr} {es : List Expr} {p p2 : Pos} {kk} (hx : HX M N Γ C lm k sc cf W X) (hg : glb sc "isinstance" = true) (hg2 : tysOk sc ts es = true) (hl : ts.length ≤ 6) (hs : noStar x = true) (h : PE X x (tE Γ W C e)) :
    PE X (.Call (.Name "isinstance" p) [x, .Tuple es kk p2] [] pos) (tE Γ W C (.isa e false ts)) :=
  PE.imp (pe_callB call_isiT (hx.glb hg) (hx.bl _ (by decide +kernel)) (by decide +kernel) (pa_cons h (pa_cons (pe_tup (pa_tys hx hg2)) pa_nil (star1 rfl _ _)) (star1 hs _ _)) (nm_name isi_nm) (nm_debug isi_nm) (star1 hs _ _) (stars_any rfl _ _)) fun σ H Q q => by
    obtain ⟨μ, hh, σa, rl, rs, o⟩ := isa_out q
    refine ⟨μ, hh, σa, rl, rs, o.imp fun y H1 ⟨μ1, h1, kd, r1, ty, q1⟩ => ?_⟩
    refine tTys_all ts σ H1 _ ⟨by rw [List.length_map, sz_eq]; omega, fun tp htp => ?_⟩
    rw [hx.K]
    obtain ⟨r2, e2⟩ := r1.other (u := .tup (ts.map fun t => V.ty (tyS t))) htp
    exact ⟨y, tp, _, _, _, _, rfl, upd_same, paired_ty ts, AH.TyX.upd htp ty, kitAny_ok kd ts, q1 _ _ e2 r2⟩
end
end AH

set_option Elab.async false
set_option linter.all false
set_option maxRecDepth 100000
set_option maxHeartbeats 4000000
/-! AH8: methods of built-in objects. -/
namespace AH
open PySem PySem.Spec L2
section
variable {M : Nm} {N : List Str} {Γ : Gm} {C : Cf} {lm : Bool} {k : Nat} {sc : Scope} {cf : Str → Bool} {W : XK} {X : Cx} {pos : Pos} {μ : Mu} {h : AHp} {H : Hp}
/-- an item whose == with a text is known -/
def CntOk (K : PySem.W.Frag) (H : Hp) (y : V) : Prop := flatV y = true ∨ ∃ a xs, y = .ref a ∧ (SqL K H a xs ∨ SqT K H a xs)
def isS (z : Str) : V → Bool
  | .str y => decide (y = z)
  | _ => false
def rCnt (K : PySem.W.Frag) : V → List V → Hp → VK → Prop := fun x xs H Q => ∃ (p : Addr) (ys : List V) (z : Str), x = .ref p ∧ xs = [.str z] ∧ SqL K H p ys ∧ (∀ y ∈ ys, CntOk K H y) ∧ Q (.int (ys.countP (isS z) : Nat)) H
def isSU (z : Str) : Value → Bool
  | .str y _ => decide (y = z)
  | _ => false
theorem isS_rel {z : Str} {y : V} {u : Value} (r : RelV y u) : isSU z u = isS z y := by
  cases y with
  | str x => obtain ⟨t, rfl⟩ := r; rfl
  | non => cases (show u = Value.none from r); rfl
  | bl b => cases (show u = Value.bool b from r); rfl
  | int i => obtain ⟨t, q⟩ := (show ∃ t, u = Value.int i t from r); cases q; rfl
  | byt i => obtain ⟨t, q⟩ := (show ∃ t, u = Value.bytes i t from r); cases q; rfl
  | flt i => obtain ⟨t, q⟩ := (show ∃ t, u = Value.float i t from r); cases q; rfl
  | ref a => cases (show u = Value.ref a from r); rfl
  | ty n => cases (show u = Value.type n from r); rfl
theorem count_rel {z : Str} : ∀ {ys : List V} {us : List Value}, Vals ys us → us.countP (isSU z) = ys.countP (isS z)
  | _, _, .nil => rfl
  | _, _, .cons r t => by rw [List.countP_cons, List.countP_cons, count_rel t, isS_rel r]
theorem eqAt_cnt {A : Around} {pins : List (Addr × Obj)} {σ : St} {s : Shared} (hu : A.units < cLine) (I : Inv X pins σ H s) {y : V} {u : Value} {z : Str} {t : Tok} (c : CntOk X.K H y) (r : RelV y u) : SeqAt.EqAt A s u (.str z t) (isSU z u) := by
  rcases c with c | ⟨a, xs, rfl, c⟩
  · cases y with
    | str x => obtain ⟨t', rfl⟩ := r; simp only [isSU]; rw [← Bool.beq_eq_decide_eq]; exact SeqAt.EqAt.str_str x t' z t
    | non => cases (show u = Value.none from r); exact SeqAt.EqAt.none_str z t
    | bl b => cases (show u = Value.bool b from r); exact SeqAt.EqAt.bool_str b z t
    | int i => obtain ⟨t', q⟩ := (show ∃ t, u = Value.int i t from r); cases q; exact SeqAt.EqAt.int_str i t' z t
    | byt i => cases c
    | flt i => cases c
    | ref a => cases c
    | ty n => cases c
  · cases (show u = Value.ref a from r)
    rcases c with c | c
    · obtain ⟨its, rv, pl, hz⟩ := I.list c
      exact SeqAt.EqAt.list_str z t pl.isList hu
    · obtain ⟨its, rv, pl, hz⟩ := I.tuple c
      exact SeqAt.EqAt.tuple_str z t pl hu
theorem mt_cnt {j : Nat} (hr : Room j X.A) : MtR X "list.count" (rCnt X.K) := by
  intro pins s σ H x xs v us Q I rx rxs h
  obtain ⟨p, ys, z, rfl, rfl, hs, hc, q⟩ := h
  cases rx
  obtain ⟨u, rfl, ru⟩ := rxs.one
  obtain ⟨t, rfl⟩ := ru
  obtain ⟨its, rv, ⟨⟨cls, dd, data, sl⟩, n, ho, hcc, hdn, hd⟩, hlen⟩ := I.list hs
  simp only at hcc hd
  subst hcc hd
  have get : ∀ y ∈ its, ∃ w, RelV w y ∧ w ∈ ys := fun y hy => by
    obtain ⟨i, hi, e⟩ := List.mem_iff_getElem.mp hy
    have hl := rv.length
    obtain ⟨w, hw⟩ : ∃ w, ys[i]? = some w := ⟨ys[i], List.getElem?_eq_getElem (by omega)⟩
    obtain ⟨u, h1, h2⟩ := rv.get hw
    rw [List.getElem?_eq_getElem hi, e] at h1
    cases h1
    exact ⟨w, h2, List.mem_of_getElem? hw⟩
  refine call_meets PySem.F.slot_list_count ⟨_, ho, rfl⟩ PySem.F.entry_list_count (PySem.F.args_list_count_2 _ _)
    (SeqAt.list_countAt p its.toArray n dd sl (.str z t) (isSU z)) ⟨ho, fun y hy => ?_, ?_⟩
  · obtain ⟨w, h1, h2⟩ := get y (by simpa using hy)
    exact eqAt_cnt (by have := hr.un; show X.A.units + 1 < cLine; omega) I (hc w h2) h1
  · refine ⟨.int (ys.countP (isS z) : Nat), H, I.tok _, ⟨s.toks, ?_⟩, q⟩
    show Value.int ((its.toArray.toList.countP (isSU z) : Nat) : Int) s.toks = Value.int ((ys.countP (isS z) : Nat) : Int) s.toks
    rw [List.toList_toArray, count_rel rv]
def rGet : V → List V → Hp → VK → Prop := fun x xs H Q => (∃ a y o, x = .ref a ∧ xs = [y] ∧ DGet H a y o ∧ Q (o.getD .non) H) ∨ ∃ a y z o, x = .ref a ∧ xs = [y, z] ∧ DGet H a y o ∧ Q (o.getD z) H
theorem Vals.two' {x y : V} {us : List Value} (r : Vals [x, y] us) : ∃ u w, us = [u, w] ∧ RelV x u ∧ RelV y w := by
  cases r with
  | cons a b =>
    obtain ⟨w, rfl, q⟩ := Vals.one b
    exact ⟨_, w, rfl, a, q⟩
theorem mt_get {j : Nat} (hr : Room j X.A) : MtR X "dict.get" rGet := by
  intro pins s σ H x xs v us Q I rx rxs h
  have hu : X.A.units + 1 < cLine := by have := hr.un; omega
  rcases h with ⟨a, y, o, rfl, rfl, g, q⟩ | ⟨a, y, z, o, rfl, rfl, g, q⟩
  · cases rx
    obtain ⟨u, rfl, ru⟩ := rxs.one
    exact d_get1 hu I g ru fun w' s3 I3 rw' => ⟨_, H, I3, rw', q⟩
  · cases rx
    obtain ⟨u, w, rfl, ru, rw_⟩ := Vals.two' rxs
    exact d_get2 hu I g ru rw_ fun w' s3 I3 rw' => ⟨_, H, I3, rw', q⟩
def meT : Me → String
  | .get1 => "dict" | .get2 => "dict" | _ => "list"
def meS : Me → Str
  | .append => "append" | .extend => "extend" | .pop => "pop" | .popAt => "pop" | .count => "count" | .get1 => "get" | .get2 => "get" | _ => "?"
def meId : Me → String
  | .append => "list.append" | .extend => "list.extend" | .pop => "list.pop" | .popAt => "list.pop" | .count => "list.count" | .get1 => "dict.get" | .get2 => "dict.get" | _ => "?"
def meOk : Me → Bool
  | .append => true | .extend => true | .pop => true | .popAt => true | .count => true | .get1 => true | .get2 => true | _ => false
def rMe (K : PySem.W.Frag) : Me → V → List V → Hp → VK → Prop
  | .append => rAppend | .extend => rExtend | .pop => rPop | .popAt => rPopAt | .count => rCnt K | .get1 => rGet | .get2 => rGet | _ => fun _ _ _ _ => False
theorem rMe_ok {j : Nat} (hr : Room j X.A) (m : Me) (hm : meOk m = true) : PlainAttrs (meT m) ∧ Slot (meT m) (meS m) (meId m) ∧ typeOf (.builtin (meId m)) = pure (.type "method_descriptor") ∧ MtR X (meId m) (rMe X.K m) := by
  cases m with
  | append => exact ⟨PySem.F.plainAttrs_list, PySem.F.slot_list_append, PySem.F.type_list_append, mt_append⟩
  | extend => exact ⟨PySem.F.plainAttrs_list, PySem.F.slot_list_extend, PySem.F.type_list_extend, mt_extend⟩
  | pop => exact ⟨PySem.F.plainAttrs_list, PySem.F.slot_list_pop, PySem.F.type_list_pop, mt_pop⟩
  | popAt => exact ⟨PySem.F.plainAttrs_list, PySem.F.slot_list_pop, PySem.F.type_list_pop, mt_popAt⟩
  | count => exact ⟨PySem.F.plainAttrs_list, PySem.F.slot_list_count, PySem.F.type_list_count, mt_cnt hr⟩
  | get1 => exact ⟨PySem.F.plainAttrs_dict, PySem.F.slot_dict_get, PySem.F.type_dict_get, mt_get hr⟩
  | get2 => exact ⟨PySem.F.plainAttrs_dict, PySem.F.slot_dict_get, PySem.F.type_dict_get, mt_get hr⟩
  | _ => cases hm
theorem mOk_ty (r : Rel Γ μ h H) {m : Me} {v : AV} {x : V} (rv : RV μ v x) (e : mOk m h v = true) : tyV Γ.K (meT m) x H := by
  unfold mOk at e
  split at e
  · split at e
    · rename_i g
      obtain ⟨a, vs, rfl, hm, q2, q3⟩ := r.lst rv g
      have : meT m = "list" := by cases m <;> first | rfl | cases e
      exact .inl ⟨this, vs, SqL.of q2⟩
    · rename_i g
      obtain ⟨a, vs, rfl, hm, q2, q3⟩ := r.dct rv g
      have : meT m = "dict" := by cases m <;> first | rfl | cases e
      exact .inr (.inr (.inl ⟨this, .inl ⟨vs, q2⟩⟩))
    · cases e
  · cases e
theorem countA_ok (r : Rel Γ μ h H) {z : Str} : ∀ {xs : List AV} {ys : List V} {n : Nat}, RVs μ xs ys → countA h z xs = some n → (∀ y ∈ ys, CntOk Γ.K H y) ∧ n = ys.countP (isS z)
  | [], _, n, .nil, e => by cases e; exact ⟨fun _ h => absurd h (by simp), rfl⟩
  | w :: xs, y :: ys, n, .cons r1 r2, e => by
    unfold countA at e
    cases q : countA h z xs with
    | none => rw [q] at e; cases w <;> cases e
    | some m =>
      obtain ⟨a, b⟩ := countA_ok r r2 q
      rw [q] at e
      have fin : ∀ {m'}, CntOk Γ.K H y → m' = (if isS z y = true then m + 1 else m) → (∀ y' ∈ y :: ys, CntOk Γ.K H y') ∧ m' = (y :: ys).countP (isS z) := fun {m'} c d => by
        refine ⟨fun y' hy => ?_, ?_⟩
        · rcases List.mem_cons.mp hy with rfl | hy
          · exact c
          · exact a y' hy
        · rw [List.countP_cons, ← b, d]
          split <;> omega
      cases w with
      | str x =>
        obtain rfl := r1
        cases e
        refine fin (.inl rfl) ?_
        simp only [isS]
        rw [strEq_ok] <;> rfl
      | non => obtain rfl := r1; cases e; exact fin (.inl rfl) rfl
      | bl _ => obtain rfl := r1; cases e; exact fin (.inl rfl) rfl
      | int _ => obtain rfl := r1; cases e; exact fin (.inl rfl) rfl
      | ref c =>
        simp only at e
        split at e
        · rename_i g
          obtain ⟨a, vs, rfl, hm, q2, q3⟩ := r.lst r1 g
          cases e
          exact fin (.inr ⟨a, vs, rfl, .inl (SqL.of q2)⟩) rfl
        · rename_i g
          obtain ⟨a, vs, rfl, hm, q2, q3⟩ := r.tup r1 g
          cases e
          exact fin (.inr ⟨a, vs, rfl, .inr (SqT.of q2)⟩) rfl
        · cases e
theorem getD_ok {kvs : List (Key × AV)} {ws : List (Key × V)} (r : RKV μ kvs ws) (kk : Key) {d : AV} {z : V} (rd : RV μ d z) : RV μ ((valA kk kvs).getD d) ((valV ws kk).getD z) := by
  obtain ⟨a, b⟩ := valA_ok kk r
  cases e : valA kk kvs with
  | none => rw [b e]; exact rd
  | some v => obtain ⟨x, h1, h2⟩ := a v e; rw [h1]; exact h2
theorem meth_ok (r : Rel Γ μ h H) {m : Me} {v : AV} {x : V} {vs : List AV} {xs : List V} {Q : V → Hp → Prop} (rv : RV μ v x) (rvs : RVs μ vs xs) (q : Out Γ W μ H (methA m h v vs) RVh Q) : rMe Γ.K m x xs H Q := by
  unfold methA at q
  split at q
  · split at q
    · rename_i ys g
      obtain ⟨a, ws, rfl, hm, q2, q3⟩ := r.lst rv g
      have hl := Pd.length q3
      split at q
      · obtain ⟨y, rfl, ry⟩ := RVs.one rvs
        split at q
        · rename_i c
          obtain ⟨r1, e1⟩ := r.set (u := .lst (ws ++ [y])) hm g rfl (o' := .lst (ys ++ [_])) ⟨_, upd_same, Pd.append q3 (.cons ry .nil)⟩
          exact ⟨a, ws, y, rfl, rfl, q2, by rw [← hl]; exact blt_lt c, q _ _ _ e1 r1 rfl⟩
        · exact q.elim
      · obtain ⟨y, rfl, ry⟩ := RVs.one rvs
        split at q
        · rename_i zs g2
          obtain ⟨b, us, rfl, hm', p2, p3⟩ := r.lst ry g2
          split at q
          · rename_i c
            obtain ⟨r1, e1⟩ := r.set (u := .lst (ws ++ us)) hm g rfl (o' := .lst (ys ++ zs)) ⟨_, upd_same, Pd.append q3 p3⟩
            exact ⟨a, b, ws, us, rfl, rfl, q2, p2, by rw [← hl, ← Pd.length p3]; exact isz_le c, q _ _ _ e1 r1 rfl⟩
          · exact q.elim
        · exact q.elim
      · cases rvs
        split at q
        · rename_i y e
          obtain ⟨y', e2, ry⟩ := Pd.get q3 e
          obtain ⟨r1, e1⟩ := r.set (u := .lst ws.dropLast) hm g rfl (o' := .lst ys.dropLast) ⟨_, upd_same, Pd.dropLast q3⟩
          exact ⟨a, ws, y', rfl, rfl, q2, by rw [← hl]; exact e2, q _ _ _ e1 r1 ry⟩
        · exact q.elim
      · obtain ⟨y, rfl, ry⟩ := RVs.one rvs
        obtain rfl := ry
        split at q
        · rename_i j ej
          split at q
          · rename_i y e
            obtain ⟨y', e2, ry⟩ := Pd.get q3 e
            obtain ⟨r1, e1⟩ := r.set (u := .lst (ws.eraseIdx j)) hm g rfl (o' := .lst (ys.eraseIdx j)) ⟨_, upd_same, Pd.erase j q3⟩
            have c : ∀ i, (if rngOk i = true then ixN ys.length i else none) = some j → rngOk i = true ∧ ixN ys.length i = some j := fun i ej => by
              split at ej
              · rename_i c; exact ⟨c, ej⟩
              · cases ej
            have c := c _ ej
            obtain ⟨s1, s2, s3, s4⟩ := ixN_seq c.2
            have c1 := c.1
            simp only [rngOk, Bool.and_eq_true, decide_eq_true_eq] at c1
            exact ⟨a, ws, _, j, y', rfl, rfl, q2, by omega, by omega, by rw [← hl]; exact s1, e2, q _ _ _ e1 r1 ry⟩
          · exact q.elim
        · exact q.elim
      · obtain ⟨y, rfl, ry⟩ := RVs.one rvs
        obtain rfl := ry
        split at q
        · rename_i n e
          obtain ⟨c1, c2⟩ := countA_ok r q3 e
          exact ⟨a, ws, _, rfl, rfl, SqL.of q2, c1, by rw [← c2]; exact q.here r rfl⟩
        · exact q.elim
      · exact q.elim
    · rename_i kvs g
      obtain ⟨a, ws, rfl, hm, q2, q3⟩ := r.dct rv g
      split at q
      · obtain ⟨y, rfl, ry⟩ := RVs.one rvs
        split at q
        · rename_i kk e
          exact .inl ⟨a, y, valV ws kk, rfl, rfl, .inl ⟨ws, kk, .inl q2, keyOf_ok e ry, rfl⟩, q.here r (getD_ok q3 kk (d := .non) rfl)⟩
        · exact q.elim
      · obtain ⟨y, z, rfl, ry, rz⟩ := RVs.two rvs
        split at q
        · rename_i kk e
          exact .inr ⟨a, y, z, valV ws kk, rfl, rfl, .inl ⟨ws, kk, .inl q2, keyOf_ok e ry, rfl⟩, q.here r (getD_ok q3 kk rz)⟩
        · exact q.elim
      · exact q.elim
    · exact q.elim
  · exact q.elim
end
end AH

set_option Elab.async false
set_option linter.all false
set_option maxRecDepth 100000
set_option maxHeartbeats 4000000
/-! AHE: enumerate(v), enumerate(v, k) of lists and tuples. (printed by enumgen.py) -/
namespace AHE
open PySem PySem.Spec PyProof.Rows L2
set_option maxHeartbeats 1000000 in
theorem meets_enumerate_newB1 {v : Value} {o : Obj} {H : Heap → Prop} (B : Begins v o H) :
    Meets (Builtin.«enumerate.__new__» ⟨[.type "enumerate", v], []⟩) (fun _ R s => H s.heap ∧
      R (.ok (.ret (.ref (s.heap.push o).objs.size))) { s with heap := (s.heap.push o).push { cls := .type "enumerate", data := .fields #[.none, .bool false, .ref s.heap.objs.size, rawInt 0, .none, .none] } }) :=
  .of_wp fun prog w A R s h => by
    obtain ⟨hp, g, d, tk, os⟩ := s; obtain ⟨h1, h⟩ := h
    have hsub := sub_enumerate
    have q1 : ∀ {A' : Around} {E : Value → Shared → Prop} {Q : Value → Shared → Prop}, Q (.ref hp.objs.size) ⟨hp.push o, g, d, tk, os⟩ → wpAny (model prog w) A' (pyIter v) Q E ⟨hp, g, d, tk, os⟩ :=
      fun q => B.iter prog w _ _ ⟨hp, g, d, tk, os⟩ _ h1 q
    wp_walk using q1
    refine wpAny_stack_any fun st => wpAny_pure ?_
    split
    · rename_i c _ _ _ _ _
      cases (c == Value.type "enumerate")
      · wp_walk using q1
        exact ⟨_, rfl, h⟩
      · wp_walk using q1
        exact ⟨_, rfl, h⟩
    · wp_walk using q1
      exact ⟨_, rfl, h⟩
section
variable {prog : Program} {w : World} {A : Around} {E : Value → Shared → Prop} {s : Shared}
theorem enum_begins1 {v : Value} {o : Obj} {H : Heap → Prop} {Q : Value → Shared → Prop} (B : Begins v o H) (h1 : H s.heap)
    (h : ∀ h', IsEnum h' (s.heap.objs.size + 1) s.heap.objs.size 0 .none → h'.get? s.heap.objs.size = some o → h'.objs.size = s.heap.objs.size + 2 →
      (∀ b o, s.heap.get? b = some o → h'.get? b = some o) → Q (.ref (s.heap.objs.size + 1)) { s with heap := h' }) :
    wpAny (model prog w) A (call (.type "enumerate") [v]) Q E s := by
  refine callType_new F.called_enumerate (by decide) (F.typeCall_enumerate_1 _) (F.newCall_enumerate_1 _) (fun obj => F.args_object_init_2 obj _) F.entry_enumerate_new
    (meets_enumerate_newB1 B) ⟨h1, ?_⟩
  have hz : (s.heap.push o).objs.size = s.heap.objs.size + 1 := Heap.size_push ..
  show _ ∧ _
  rw [hz]
  have he : IsEnum ((s.heap.push o).push { cls := .type "enumerate", data := .fields #[.none, .bool false, .ref s.heap.objs.size, rawInt 0, .none, .none] }) (s.heap.objs.size + 1) s.heap.objs.size 0 .none := by
    have := Heap.get?_push_size (s.heap.push o) (o := { cls := .type "enumerate", data := .fields #[.none, .bool false, .ref s.heap.objs.size, rawInt 0, .none, .none] }) rfl
    rw [hz] at this; exact this
  refine ⟨⟨_, he, rfl⟩, h _ he (Heap.get?_push_of_some _ (Heap.get?_push_size _ B.free)) (by rw [Heap.size_push, hz]) fun b o x => Heap.get?_push_of_some _ (Heap.get?_push_of_some _ x)⟩
end

/-- the list at a as it stands at each turn, each item in a new pair with k0 + its place -/
def IteL (K : PySem.W.Frag) (a : Addr) (k0 : Int) : It :=
  ⟨fun i H => ∃ (xs : List V) (x : V), SqL K H a xs ∧ xs[i]? = some x, fun i H v H' => ∃ T x, v = .ref T ∧ H T = none ∧ H' = upd H T (.tup [.int (k0 + (i : Nat)), x]) ∧ ∀ xs, SqL K H a xs → xs[i]? = some x, fun i H => ∃ xs : List V, SqL K H a xs ∧ xs.length ≤ i⟩
theorem turn_enumL {P : Program} {w : World} {K : PySem.W.Frag} {elts : List Expr} {kk : Nat} {tpos : Pos} (k0 : Int) (a e it : Addr) :
    Turn P w K (.Tuple elts kk tpos) (IteL K a k0) [e, it] e (fun i h => (∃ old, IsEnum h e it (k0 + ((i : Nat) : Int)) old) ∧ h.IsListIter it a i ∧ e ≠ it) where
  mem := by simp
  obj := fun i h st b hb => by
    obtain ⟨⟨old, he⟩, ⟨o, ho, hc, hd⟩, _⟩ := st
    have e' : b = e ∨ b = it := by simpa using hb
    rcases e' with z | z
    · rw [z]; exact ⟨_, he, fun v q => nomatch q⟩
    · rw [z]; exact ⟨o, ho, fun v q => by rw [hd] at q; cases q⟩
  keep := fun i h h' st k => let ⟨⟨old, he⟩, hi, hne⟩ := st; ⟨⟨old, k e (by simp) _ he⟩, hi.at fun o q => k it (by simp) o q, hne⟩
  item := by
    intro X hP hw hK hc i pins s σ H E I hf st hg
    subst hP hw hK
    obtain ⟨⟨old, he⟩, hit, hne⟩ := st
    obtain ⟨xs, x, hq, hx⟩ := hg
    obtain ⟨its, rv, p, hz⟩ := I.list hq
    obtain ⟨u, hu, ru⟩ := rv.get hx
    have hel : e < s.heap.objs.size := Heap.lt_size he
    have hil : it < s.heap.objs.size := by obtain ⟨_, q, _⟩ := hit; exact Heap.lt_size q
    have hlt : i < its.toArray.size := by
      have := (List.getElem?_eq_some_iff.mp hu).1
      simpa using this
    have hP : s.heap.IsList a its.toArray := p.isList
    have hea : e ≠ a := fun z => by
      obtain ⟨o, ho, hc, _⟩ := hP
      rw [← z, he] at ho
      cases ho
      exact absurd (show Value.type "enumerate" = Value.type "list" from hc) (by decide)
    have hna : a ≠ it := fun z => by
      obtain ⟨o, ho, hc, _⟩ := hP
      obtain ⟨o', ho', hc', _⟩ := id hit
      rw [z, ho'] at ho
      cases ho
      rw [hc] at hc'
      exact absurd (show Value.type "list" = Value.type "list_iterator" from hc') (by decide)
    refine wpAny_pyNext_enum_itemC (Draws.list (A := X.A.in1) (show X.A.in1.handled = none from I.ok.hd hc) it a hna its.toArray) he ⟨hit, hP⟩ hlt hne (by simp; exact ⟨hne, hea⟩) fun x' h' tk hP' ho hit' hT hsz hk => ?_
    have ex : x' = u := by
      have : its.toArray[i]? = some x' := hP'
      have h2 : its.toArray[i]? = some u := by simpa using hu
      rw [h2] at this
      exact (Option.some.inj this).symm
    subst ex
    refine ⟨_, rfl, wpAny_letOwnedTupleGo_enum (s := { s with heap := h', toks := tk + 1 }) ho fun h'' he' sb => ?_⟩
    have hT2 : h''.get? s.heap.objs.size = some { cls := .type "tuple", data := .seq #[.int (k0 + (i : Nat)) tk, x'] } := (sb.2 _ (Nat.ne_of_gt hel)).trans hT
    have new : ObjOk X.prog X.w (upd H s.heap.objs.size (.tup [.int (k0 + (i : Nat)), x])) h'' s.heap.objs.size (.tup [.int (k0 + (i : Nat)), x]) :=
      ⟨by show 2 ≤ sizeLine; decide, [.int (k0 + (i : Nat)) tk, x'], .cons ⟨_, rfl⟩ (.cons ru .nil), ⟨_, hT2, rfl, _, rfl⟩⟩
    have I1 : Inv X pins σ (upd H s.heap.objs.size (.tup [.int (k0 + (i : Nat)), x])) { s with heap := h'', toks := tk + 1 } :=
      I.turnedNew (ch := [e, it]) (fun b ob hb q => (sb.2 b (fun z => hb (by simp [z]))).trans (hk b ob (fun z => hb (by simp [z])) (fun z => hb (by simp [z])) q)) hf (Nat.le_refl _) new
    refine ⟨.ref s.heap.objs.size, _, I1, rfl, ⟨_, x, rfl, I.hok.fresh (Nat.le_refl _), rfl, fun ys hy => by rw [I.list_inj hy hq]; exact hx⟩, ⟨⟨x', ?_⟩, hit'.1.at fun o q => (sb.2 it (Ne.symm hne)).trans q, hne⟩, fun b hb => ?_⟩
    · have e1 : k0 + ((i + 1 : Nat) : Int) = k0 + (i : Int) + 1 := by omega
      rw [e1]; exact he'
    · have hb' : b < s.heap.objs.size := by
        have e' : b = e ∨ b = it := by simpa using hb
        rcases e' with z | z
        · rw [z]; exact hel
        · rw [z]; exact hil
      rw [upd_ne (Nat.ne_of_lt hb')]
      exact (hf b hb).1
  done := by
    intro X hP hw hK hc i pins s σ H E I hf st hg
    subst hP hw hK
    obtain ⟨⟨old, he⟩, hit, hne⟩ := st
    obtain ⟨xs, hq, hx⟩ := hg
    obtain ⟨its, rv, p, hz⟩ := I.list hq
    obtain ⟨f0, f1, f2, f3, f4, f5⟩ := hf it (by simp)
    have hl := rv.length
    have hP : s.heap.IsList a its.toArray := p.isList
    have D : Draws X.prog X.w X.A.in1 it [it, a] i (fun _ _ => False) (fun j h => j = i ∧ h.IsListIter it a i ∧ h.IsList a its.toArray) := {
      live := fun j h st => let ⟨o, ho, _⟩ := st.2.1; ⟨o, ho⟩
      frame := fun j h h' st k => ⟨st.1, st.2.1.at fun o q => k it (by simp) o q, st.2.2.at fun o q => k a (by simp) o q⟩
      item := fun j s' Q E hj st _ => absurd st.1 (Nat.ne_of_lt hj)
      done := fun s' Q E st hE => wpAny_nextOf_list_end (show X.A.in1.handled = none from I.ok.hd hc) st.2.1 st.2.2 (by simp; omega) hE }
    exact wpAny_pyNext_enum_endD D he ⟨rfl, hit, hP⟩ fun h' eb => ⟨rfl, I.turned (t' := s.toks) (fun b o hb q => eb b o hb q) f0 f1 f3 f4 f5⟩
  self := fun A i s Q E st h => let ⟨⟨_, he⟩, _⟩ := st; wpAny_pyIter_enum he h

theorem pie_L {X : Cx} {elts : List Expr} {kk : Nat} {tpos : Pos} {pins : List (Addr × Obj)} {σ : L2.St} {H1 : Hp} {s1 : Shared} {R : It → Hp → Prop} {k0 : Int} {a : Addr} {h' : Heap} (I1 : Inv X pins σ H1 s1) (he : IsEnum h' (s1.heap.objs.size + 1) s1.heap.objs.size k0 .none) (hit : h'.get? s1.heap.objs.size = some { cls := .type "list_iterator", data := .fields #[.ref a, .int 0 0] })
    (hk : ∀ b o, s1.heap.get? b = some o → h'.get? b = some o) (q : R (IteL X.K a k0) H1) : wpAny (model X.prog X.w) X.A (pyIter (.ref (s1.heap.objs.size + 1))) (PIE X pins σ (.Tuple elts kk tpos) R) X.xe { s1 with heap := h' } := by
  refine wpAny_pyIter_enum he ?_
  have I2 : Inv X pins σ H1 { s1 with heap := h' } := I1.kept (t' := s1.toks) hk
  refine ⟨s1.heap.objs.size + 1, [s1.heap.objs.size + 1, s1.heap.objs.size], _, _, H1, rfl, I2, turn_enumL k0 a (s1.heap.objs.size + 1) s1.heap.objs.size, ⟨⟨.none, by rw [show k0 + ((0 : Nat) : Int) = k0 by omega]; exact he⟩, ⟨_, hit, rfl, rfl⟩, Nat.succ_ne_self _⟩, fun b hb => ?_, q⟩
  have e' : b = s1.heap.objs.size + 1 ∨ b = s1.heap.objs.size := by simpa using hb
  have hle : s1.heap.objs.size ≤ b := by
    rcases e' with z | z
    · rw [z]; exact Nat.le_add_right _ _
    · rw [z]; exact Nat.le_refl _
  exact I1.fpOk hle (I1.hok.fresh hle)

/-- the tuple at a as it stands at each turn, each item in a new pair with k0 + its place -/
def IteT (K : PySem.W.Frag) (a : Addr) (k0 : Int) : It :=
  ⟨fun i H => ∃ (xs : List V) (x : V), SqT K H a xs ∧ xs[i]? = some x, fun i H v H' => ∃ T x, v = .ref T ∧ H T = none ∧ H' = upd H T (.tup [.int (k0 + (i : Nat)), x]) ∧ ∀ xs, SqT K H a xs → xs[i]? = some x, fun i H => ∃ xs : List V, SqT K H a xs ∧ xs.length ≤ i⟩
theorem turn_enumT {P : Program} {w : World} {K : PySem.W.Frag} {elts : List Expr} {kk : Nat} {tpos : Pos} (k0 : Int) (a e it : Addr) :
    Turn P w K (.Tuple elts kk tpos) (IteT K a k0) [e, it] e (fun i h => (∃ old, IsEnum h e it (k0 + ((i : Nat) : Int)) old) ∧ h.IsTupleIter it a i ∧ e ≠ it) where
  mem := by simp
  obj := fun i h st b hb => by
    obtain ⟨⟨old, he⟩, ⟨o, ho, hc, hd⟩, _⟩ := st
    have e' : b = e ∨ b = it := by simpa using hb
    rcases e' with z | z
    · rw [z]; exact ⟨_, he, fun v q => nomatch q⟩
    · rw [z]; exact ⟨o, ho, fun v q => by rw [hd] at q; cases q⟩
  keep := fun i h h' st k => let ⟨⟨old, he⟩, hi, hne⟩ := st; ⟨⟨old, k e (by simp) _ he⟩, hi.at fun o q => k it (by simp) o q, hne⟩
  item := by
    intro X hP hw hK hc i pins s σ H E I hf st hg
    subst hP hw hK
    obtain ⟨⟨old, he⟩, hit, hne⟩ := st
    obtain ⟨xs, x, hq, hx⟩ := hg
    obtain ⟨its, rv, p, hz⟩ := I.tuple hq
    obtain ⟨u, hu, ru⟩ := rv.get hx
    have hel : e < s.heap.objs.size := Heap.lt_size he
    have hil : it < s.heap.objs.size := by obtain ⟨_, q, _⟩ := hit; exact Heap.lt_size q
    have hlt : i < its.toArray.size := by
      have := (List.getElem?_eq_some_iff.mp hu).1
      simpa using this
    have hP : s.heap.IsTuple a its.toArray := p
    have hea : e ≠ a := fun z => by
      obtain ⟨o, ho, hc, _⟩ := hP
      rw [← z, he] at ho
      cases ho
      exact absurd (show Value.type "enumerate" = Value.type "tuple" from hc) (by decide)
    have hna : a ≠ it := fun z => by
      obtain ⟨o, ho, hc, _⟩ := hP
      obtain ⟨o', ho', hc', _⟩ := id hit
      rw [z, ho'] at ho
      cases ho
      rw [hc] at hc'
      exact absurd (show Value.type "tuple" = Value.type "tuple_iterator" from hc') (by decide)
    refine wpAny_pyNext_enum_itemC (Draws.tuple (A := X.A.in1) (show X.A.in1.handled = none from I.ok.hd hc) it a hna its.toArray) he ⟨hit, hP⟩ hlt hne (by simp; exact ⟨hne, hea⟩) fun x' h' tk hP' ho hit' hT hsz hk => ?_
    have ex : x' = u := by
      have : its.toArray[i]? = some x' := hP'
      have h2 : its.toArray[i]? = some u := by simpa using hu
      rw [h2] at this
      exact (Option.some.inj this).symm
    subst ex
    refine ⟨_, rfl, wpAny_letOwnedTupleGo_enum (s := { s with heap := h', toks := tk + 1 }) ho fun h'' he' sb => ?_⟩
    have hT2 : h''.get? s.heap.objs.size = some { cls := .type "tuple", data := .seq #[.int (k0 + (i : Nat)) tk, x'] } := (sb.2 _ (Nat.ne_of_gt hel)).trans hT
    have new : ObjOk X.prog X.w (upd H s.heap.objs.size (.tup [.int (k0 + (i : Nat)), x])) h'' s.heap.objs.size (.tup [.int (k0 + (i : Nat)), x]) :=
      ⟨by show 2 ≤ sizeLine; decide, [.int (k0 + (i : Nat)) tk, x'], .cons ⟨_, rfl⟩ (.cons ru .nil), ⟨_, hT2, rfl, _, rfl⟩⟩
    have I1 : Inv X pins σ (upd H s.heap.objs.size (.tup [.int (k0 + (i : Nat)), x])) { s with heap := h'', toks := tk + 1 } :=
      I.turnedNew (ch := [e, it]) (fun b ob hb q => (sb.2 b (fun z => hb (by simp [z]))).trans (hk b ob (fun z => hb (by simp [z])) (fun z => hb (by simp [z])) q)) hf (Nat.le_refl _) new
    refine ⟨.ref s.heap.objs.size, _, I1, rfl, ⟨_, x, rfl, I.hok.fresh (Nat.le_refl _), rfl, fun ys hy => by rw [I.tuple_inj hy hq]; exact hx⟩, ⟨⟨x', ?_⟩, hit'.1.at fun o q => (sb.2 it (Ne.symm hne)).trans q, hne⟩, fun b hb => ?_⟩
    · have e1 : k0 + ((i + 1 : Nat) : Int) = k0 + (i : Int) + 1 := by omega
      rw [e1]; exact he'
    · have hb' : b < s.heap.objs.size := by
        have e' : b = e ∨ b = it := by simpa using hb
        rcases e' with z | z
        · rw [z]; exact hel
        · rw [z]; exact hil
      rw [upd_ne (Nat.ne_of_lt hb')]
      exact (hf b hb).1
  done := by
    intro X hP hw hK hc i pins s σ H E I hf st hg
    subst hP hw hK
    obtain ⟨⟨old, he⟩, hit, hne⟩ := st
    obtain ⟨xs, hq, hx⟩ := hg
    obtain ⟨its, rv, p, hz⟩ := I.tuple hq
    obtain ⟨f0, f1, f2, f3, f4, f5⟩ := hf it (by simp)
    have hl := rv.length
    have hP : s.heap.IsTuple a its.toArray := p
    have D : Draws X.prog X.w X.A.in1 it [it, a] i (fun _ _ => False) (fun j h => j = i ∧ h.IsTupleIter it a i ∧ h.IsTuple a its.toArray) := {
      live := fun j h st => let ⟨o, ho, _⟩ := st.2.1; ⟨o, ho⟩
      frame := fun j h h' st k => ⟨st.1, st.2.1.at fun o q => k it (by simp) o q, st.2.2.at fun o q => k a (by simp) o q⟩
      item := fun j s' Q E hj st _ => absurd st.1 (Nat.ne_of_lt hj)
      done := fun s' Q E st hE => wpAny_nextOf_tuple_end (show X.A.in1.handled = none from I.ok.hd hc) st.2.1 st.2.2 (by simp; omega) hE }
    exact wpAny_pyNext_enum_endD D he ⟨rfl, hit, hP⟩ fun h' eb => ⟨rfl, I.turned (t' := s.toks) (fun b o hb q => eb b o hb q) f0 f1 f3 f4 f5⟩
  self := fun A i s Q E st h => let ⟨⟨_, he⟩, _⟩ := st; wpAny_pyIter_enum he h

theorem pie_T {X : Cx} {elts : List Expr} {kk : Nat} {tpos : Pos} {pins : List (Addr × Obj)} {σ : L2.St} {H1 : Hp} {s1 : Shared} {R : It → Hp → Prop} {k0 : Int} {a : Addr} {h' : Heap} (I1 : Inv X pins σ H1 s1) (he : IsEnum h' (s1.heap.objs.size + 1) s1.heap.objs.size k0 .none) (hit : h'.get? s1.heap.objs.size = some { cls := .type "tuple_iterator", data := .fields #[.ref a, .int 0 0] })
    (hk : ∀ b o, s1.heap.get? b = some o → h'.get? b = some o) (q : R (IteT X.K a k0) H1) : wpAny (model X.prog X.w) X.A (pyIter (.ref (s1.heap.objs.size + 1))) (PIE X pins σ (.Tuple elts kk tpos) R) X.xe { s1 with heap := h' } := by
  refine wpAny_pyIter_enum he ?_
  have I2 : Inv X pins σ H1 { s1 with heap := h' } := I1.kept (t' := s1.toks) hk
  refine ⟨s1.heap.objs.size + 1, [s1.heap.objs.size + 1, s1.heap.objs.size], _, _, H1, rfl, I2, turn_enumT k0 a (s1.heap.objs.size + 1) s1.heap.objs.size, ⟨⟨.none, by rw [show k0 + ((0 : Nat) : Int) = k0 by omega]; exact he⟩, ⟨_, hit, rfl, rfl⟩, Nat.succ_ne_self _⟩, fun b hb => ?_, q⟩
  have e' : b = s1.heap.objs.size + 1 ∨ b = s1.heap.objs.size := by simpa using hb
  have hle : s1.heap.objs.size ≤ b := by
    rcases e' with z | z
    · rw [z]; exact Nat.le_add_right _ _
    · rw [z]; exact Nat.le_refl _
  exact I1.fpOk hle (I1.hok.fresh hle)

def iEn (K : PySem.W.Frag) (x : V) (k0 : Int) (H1 : Hp) (R : It → Hp → Prop) : Prop := ∃ a xs, x = .ref a ∧ ((SqL K H1 a xs ∧ R (IteL K a k0) H1) ∨ (SqT K H1 a xs ∧ R (IteT K a k0) H1))
def iEnum1 (K : PySem.W.Frag) (ta : TA) : TI := fun σ H R => ta σ H fun vs H1 => ∃ x, vs = [x] ∧ iEn K x 0 H1 R
def iEnum2 (K : PySem.W.Frag) (ta : TA) : TI := fun σ H R => ta σ H fun vs H1 => ∃ x k, vs = [x, .int k] ∧ -(2 ^ 62) ≤ k ∧ k < 2 ^ 62 ∧ iEn K x k H1 R
theorem pi_enumA {X : Cx} {e : Expr} {ta : TA} {p pos tpos : Pos} {elts : List Expr} {kk : Nat} (hg : Gl X "enumerate") (hm : X.mg "enumerate" = none) (ha : PA X [e] ta) (hs : starEach [e] X.env = [(false, eval e X.env)] := by rfl) :
    PI X (.Tuple elts kk tpos) (.Call (.Name "enumerate" p) [e] [] pos) (iEnum1 X.K ta) := by
  refine ⟨fun pins s σ H R I h => ?_⟩
  refine Call_ (ld_blt I hg hm boot_enumerate (PyProof.Rows.callWith_type1 (thn (ha.run pos pins s σ H _ I h) fun us s1 ⟨vs, H1, I1, r1, q1⟩ => ?_) hs rfl))
  obtain ⟨x, ex, a, xs, ex', q⟩ := q1
  subst ex ex'
  cases r1 with
  | cons r rr =>
    cases rr
    cases r
    rcases q with ⟨hq, q⟩ | ⟨hq, q⟩
    · obtain ⟨its, rv, p', hz⟩ := I1.list hq
      exact enum_begins1 (begins_list a its.toArray) p'.isList fun h' he hit hsz hk => pie_L I1 he hit hk q
    · obtain ⟨its, rv, p', hz⟩ := I1.tuple hq
      exact enum_begins1 (begins_tuple a its.toArray) (show s1.heap.IsTuple a its.toArray from p') fun h' he hit hsz hk => pie_T I1 he hit hk q
theorem pi_enumB {X : Cx} {e e2 : Expr} {ta : TA} {p pos tpos : Pos} {elts : List Expr} {kk : Nat} (hg : Gl X "enumerate") (hm : X.mg "enumerate" = none) (ha : PA X [e, e2] ta)
    (hs : starEach [e, e2] X.env = (false, eval e X.env) :: starEach [e2] X.env := by rfl) (hpl : (backTo pos (starEach [e2] X.env)).any (·.1) = false := by rfl) :
    PI X (.Tuple elts kk tpos) (.Call (.Name "enumerate" p) [e, e2] [] pos) (iEnum2 X.K ta) := by
  refine ⟨fun pins s σ H R I h => ?_⟩
  refine Call_ (ld_blt I hg hm boot_enumerate (PyProof.Rows.callWith_type1 (thn (ha.run pos pins s σ H _ I h) fun us s1 ⟨vs, H1, I1, r1, q1⟩ => ?_) hs hpl))
  obtain ⟨x, k, ex, k1, k2, a, xs, ex', q⟩ := q1
  subst ex ex'
  cases r1 with
  | cons r rr =>
    cases rr with
    | cons r' rr =>
      cases rr
      cases r
      obtain ⟨t, rfl⟩ := r'
      rcases q with ⟨hq, q⟩ | ⟨hq, q⟩
      · obtain ⟨its, rv, p', hz⟩ := I1.list hq
        exact enum_begins (begins_list a its.toArray) p'.isList (by omega) (by omega) fun h' he hit hsz hk => pie_L I1 he hit hk q
      · obtain ⟨its, rv, p', hz⟩ := I1.tuple hq
        exact enum_begins (begins_tuple a its.toArray) (show s1.heap.IsTuple a its.toArray from p') (by omega) (by omega) fun h' he hit hsz hk => pie_T I1 he hit hk q
end AHE


set_option Elab.async false
set_option linter.all false
set_option maxRecDepth 100000
set_option maxHeartbeats 4000000
/-! AH9: what is walked; targets. -/
namespace AH
open PySem PySem.Spec L2
/-- what a turn hands over -/
def Yl (Γ : Gm) (μ : Mu) (h : AHp) (H : Hp) (vs : List AV) (x : V) (H2 : Hp) : Prop :=
  Rel Γ μ h H2 ∧ Ext μ H μ H2 ∧ ((∃ v, vs = [v] ∧ RV μ v x) ∨ ∃ v w p y z, vs = [v, w] ∧ x = .ref p ∧ H2 p = some (.tup [y, z]) ∧ RV μ v y ∧ RV μ w z)
/-- AH's walk and the layer's -/
def ItR (Γ : Gm) (μ1 : Mu) (H1 : Hp) (t : It) (J : L2.It) : Prop := ∀ i μ h H, Ext μ1 H1 μ H → Rel Γ μ h H →
  (∀ vs, i < t.len → t.item i h = some vs → J.go i H ∧ ∀ x H2, J.yld i H x H2 → Yl Γ μ h H vs x H2) ∧ (i = t.len → t.fin h = true → J.stop i H)
def tI (Γ : Gm) (W : XK) (C : Cf) (it : I) : TI := fun σ H R => ∃ μ h σa, Rel Γ μ h H ∧ RS μ σa σ ∧ Out Γ W μ H (evI C it σa h) (ItR Γ) R
theorem PI.imp {X : Cx} {g e : Expr} {t t' : TI} (p : PI X g e t) (f : ∀ σ H R, t' σ H R → t σ H R) : PI X g e t' := ⟨fun pins s σ H R I h => p.run pins s σ H R I (f σ H R h)⟩
section
variable {M : Nm} {N : List Str} {Γ : Gm} {C : Cf} {lm : Bool} {k : Nat} {sc : Scope} {cf : Str → Bool} {W : XK} {X : Cx} {pos : Pos} {μ μ1 : Mu} {h : AHp} {H H1 : Hp} {tg : Expr}
theorem Yl.one (r : Rel Γ μ h H) {v : AV} {x : V} (rv : RV μ v x) : Yl Γ μ h H [v] x H := ⟨r, .refl _ _, .inl ⟨v, rfl, rv⟩⟩
theorem itr_list {n m : Nat} {a : Addr} (hm : μ1 n = some a) : ItR Γ μ1 H1 (.lv n m) (Itl Γ.K a) := fun i μ h H e r => by
  have hm' := e.le _ _ hm
  have rv : RV μ (.ref n) (.ref a) := ⟨a, hm', rfl⟩
  refine ⟨fun vs hi hit => ?_, fun hi hf => ?_⟩
  · cases q : (It.lv n m).one i h with
    | none => simp only [It.item, q] at hit; cases hit
    | some v =>
      simp only [It.item, q] at hit
      cases hit
      simp only [It.one] at q
      split at q
      · rename_i ys g
        split at q
        · obtain ⟨b, ws, eb, hb, q2, q3⟩ := r.lst rv g
          cases eb
          obtain ⟨x, q4, q5⟩ := Pd.get q3 q
          refine ⟨⟨ws, x, SqL.of q2, q4⟩, fun x' H2 hy => ?_⟩
          obtain ⟨rfl, hy⟩ := hy
          have e2 := hy ws (SqL.of q2)
          rw [q4] at e2; cases e2
          exact Yl.one r q5
        · cases q
      · rename_i ys g
        split at q
        · obtain ⟨b, eb, hb, q2⟩ := r.scr rv g
          cases eb
          cases q3 : ys[i]? with
          | none => rw [q3] at q; cases q
          | some z =>
            rw [q3] at q; cases q
            have q4 : (ys.map V.int)[i]? = some (.int z) := by rw [List.getElem?_map, q3]; rfl
            refine ⟨⟨_, _, .inl q2, q4⟩, fun x' H2 hy => ?_⟩
            obtain ⟨rfl, hy⟩ := hy
            have e2 := hy _ (.inl q2)
            rw [q4] at e2; cases e2
            exact Yl.one r rfl
        · cases q
      · cases q
  · subst hi
    simp only [It.fin] at hf
    split at hf
    · rename_i ys g
      obtain ⟨b, ws, eb, hb, q2, q3⟩ := r.lst rv g
      cases eb
      exact ⟨ws, SqL.of q2, by rw [← Pd.length q3]; exact Nat.le_of_eq (by simpa using hf)⟩
    · rename_i ys g
      obtain ⟨b, eb, hb, q2⟩ := r.scr rv g
      cases eb
      exact ⟨_, .inl q2, by rw [List.length_map]; exact Nat.le_of_eq (by simpa using hf)⟩
    · cases hf
theorem itr_tup {xs : List AV} {ws : List V} {a : Addr} (ha : H1 a = some (.tup ws)) (hr : RVs μ1 xs ws) : ItR Γ μ1 H1 (.vs xs) (Itt Γ.K a) := fun i μ h H e r => by
  have ha' := e.tups _ _ ha
  have hr' := hr.mono e.le
  refine ⟨fun vs hi hit => ?_, fun hi hf => ?_⟩
  · cases q : xs[i]? with
    | none => simp only [It.item, It.one, q] at hit; cases hit
    | some v =>
      simp only [It.item, It.one, q] at hit
      cases hit
      obtain ⟨x, q4, q5⟩ := Pd.get hr' q
      refine ⟨⟨ws, x, SqT.of ha', q4⟩, fun x' H2 hy => ?_⟩
      obtain ⟨rfl, hy⟩ := hy
      have e2 := hy ws (SqT.of ha')
      rw [q4] at e2; cases e2
      exact Yl.one r q5
  · subst hi
    exact ⟨ws, SqT.of ha', by rw [← Pd.length hr]; exact Nat.le_refl _⟩
theorem itr_str {x : Str} : ItR Γ μ1 H1 (.vs (x.cps.toList.map fun c => .str ⟨#[c]⟩)) (Its x) := fun i μ h H e r => by
  refine ⟨fun vs hi hit => ?_, fun hi hf => ?_⟩
  · simp only [It.item, It.one, List.getElem?_map] at hit
    cases q : x.cps.toList[i]? with
    | none => rw [q] at hit; cases hit
    | some c =>
      rw [q] at hit
      cases hit
      have q' : x.cps[i]? = some c := by rw [← Array.getElem?_toList]; exact q
      refine ⟨(Array.getElem?_eq_some_iff.mp q').1, fun x' H2 hy => ?_⟩
      obtain ⟨rfl, c', q2, rfl⟩ := hy
      rw [q'] at q2; cases q2
      exact Yl.one r rfl
  · subst hi
    show x.cps.size ≤ _
    simp [It.len]
theorem rngL_get : ∀ (n i : Nat) (lo : Int) (v : AV), (rngL lo n)[i]? = some v → i < n ∧ v = .int (lo + i)
  | 0, i, lo, v, h => by simp [rngL] at h
  | n + 1, 0, lo, v, h => by simp [rngL] at h; subst h; exact ⟨by omega, by simp⟩
  | n + 1, i + 1, lo, v, h => by
    simp only [rngL, List.getElem?_cons_succ] at h
    obtain ⟨a, b⟩ := rngL_get n i (lo + 1) v h
    exact ⟨by omega, by rw [b]; congr 1; push_cast; omega⟩
theorem rngL_len : ∀ (n : Nat) (lo : Int), (rngL lo n).length = n
  | 0, _ => rfl
  | n + 1, lo => by simp [rngL, rngL_len n]
theorem itr_rng {lo : Int} {n : Nat} : ItR Γ μ1 H1 (.vs (rngL lo n)) (Itr lo n) := fun i μ h H e r => by
  refine ⟨fun vs hi hit => ?_, fun hi hf => ?_⟩
  · simp only [It.item, It.one] at hit
    cases q : (rngL lo n)[i]? with
    | none => rw [q] at hit; cases hit
    | some v =>
      rw [q] at hit
      cases hit
      obtain ⟨q1, rfl⟩ := rngL_get _ _ _ _ q
      refine ⟨q1, fun x' H2 hy => ?_⟩
      obtain ⟨rfl, rfl⟩ := hy
      exact Yl.one r rfl
  · subst hi
    show n ≤ _
    simp [It.len, rngL_len]
theorem rngS_get (st : Int) : ∀ (n i : Nat) (lo : Int) (v : AV), (rngS lo st n)[i]? = some v → i < n ∧ v = .int (lo + (i : Nat) * st)
  | 0, i, lo, v, h => by simp [rngS] at h
  | n + 1, 0, lo, v, h => by simp [rngS] at h; subst h; exact ⟨by omega, by simp⟩
  | n + 1, i + 1, lo, v, h => by
    simp only [rngS, List.getElem?_cons_succ] at h
    obtain ⟨a, b⟩ := rngS_get st n i (lo + st) v h
    refine ⟨by omega, ?_⟩
    rw [b]
    congr 1
    have : (((i + 1 : Nat) : Int)) * st = (i : Nat) * st + st := by push_cast; rw [Int.add_mul]; omega
    rw [this]; omega
theorem rngS_len (st : Int) : ∀ (n : Nat) (lo : Int), (rngS lo st n).length = n
  | 0, _ => rfl
  | n + 1, lo => by simp [rngS, rngS_len st n]
theorem itr_rngS {lo st : Int} {n : Nat} : ItR Γ μ1 H1 (.vs (rngS lo st n)) (Itc lo st n) := fun i μ h H e r => by
  refine ⟨fun vs hi hit => ?_, fun hi hf => ?_⟩
  · simp only [It.item, It.one] at hit
    cases q : (rngS lo st n)[i]? with
    | none => rw [q] at hit; cases hit
    | some v =>
      rw [q] at hit
      cases hit
      obtain ⟨q1, rfl⟩ := rngS_get st _ _ _ _ q
      refine ⟨q1, fun x' H2 hy => ?_⟩
      obtain ⟨rfl, rfl⟩ := hy
      exact Yl.one r rfl
  · subst hi
    show n ≤ _
    simp [It.len, rngS_len]
/-- a new pair -/
theorem Yl.pair (r : Rel Γ μ h H) {v w : AV} {y z : V} {T : Addr} (hT : H T = none) (rv : RV μ v y) (rw_ : RV μ w z) : Yl Γ μ h H [v, w] (.ref T) (upd H T (.tup [y, z])) :=
  let ⟨r1, e1⟩ := r.other (u := .tup [y, z]) hT
  ⟨r1, e1, .inr ⟨v, w, T, y, z, rfl, rfl, upd_same, rv, rw_⟩⟩
/-- a list's item where it stands -/
theorem lv_one (r : Rel Γ μ h H) {n m i : Nat} {a : Addr} (hm : μ n = some a) {v : AV} (q : (It.lv n m).one i h = some v) : ∃ vs x, SqL Γ.K H a vs ∧ vs[i]? = some x ∧ RV μ v x := by
  have rv : RV μ (.ref n) (.ref a) := ⟨a, hm, rfl⟩
  simp only [It.one] at q
  split at q
  · rename_i ys g
    split at q
    · obtain ⟨b, ws, eb, hb, q2, q3⟩ := r.lst rv g
      cases eb
      obtain ⟨x, q4, q5⟩ := Pd.get q3 q
      exact ⟨ws, x, SqL.of q2, q4, q5⟩
    · cases q
  · rename_i ys g
    split at q
    · obtain ⟨b, eb, hb, q2⟩ := r.scr rv g
      cases eb
      cases q3 : ys[i]? with
      | none => rw [q3] at q; cases q
      | some z =>
        rw [q3] at q; cases q
        have q4 : (ys.map V.int)[i]? = some (.int z) := by rw [List.getElem?_map, q3]; rfl
        exact ⟨_, _, .inl q2, q4, rfl⟩
    · cases q
  · cases q
theorem lv_fin (r : Rel Γ μ h H) {n m : Nat} {a : Addr} (hm : μ n = some a) (hf : (It.lv n m).fin h = true) : ∃ vs, SqL Γ.K H a vs ∧ vs.length = m := by
  have rv : RV μ (.ref n) (.ref a) := ⟨a, hm, rfl⟩
  simp only [It.fin] at hf
  split at hf
  · rename_i ys g
    obtain ⟨b, ws, eb, hb, q2, q3⟩ := r.lst rv g
    cases eb
    exact ⟨ws, SqL.of q2, by rw [← Pd.length q3]; simpa using hf⟩
  · rename_i ys g
    obtain ⟨b, eb, hb, q2⟩ := r.scr rv g
    cases eb
    exact ⟨_, .inl q2, by rw [List.length_map]; simpa using hf⟩
  · cases hf
theorem itr_enL {n m : Nat} {a : Addr} {k : Int} (hm : μ1 n = some a) : ItR Γ μ1 H1 (.en k (.lv n m)) (AHE.IteL Γ.K a k) := fun i μ h H e r => by
  refine ⟨fun vs hi hit => ?_, fun hi hf => ?_⟩
  · cases q : (It.lv n m).one i h with
    | none => simp only [It.item, q] at hit; cases hit
    | some v =>
      simp only [It.item, q] at hit
      cases hit
      obtain ⟨ws, x, a1, a2, a3⟩ := lv_one r (e.le _ _ hm) q
      refine ⟨⟨ws, x, a1, a2⟩, fun x' H2 hy => ?_⟩
      obtain ⟨T, x'', rfl, hT, rfl, hy⟩ := hy
      have e2 := hy ws a1
      rw [a2] at e2; cases e2
      exact Yl.pair r hT rfl a3
  · obtain ⟨ws, a1, a2⟩ := lv_fin (m := m) r (e.le _ _ hm) hf
    have hi : i = m := hi
    exact ⟨ws, a1, by omega⟩
theorem itr_enT {xs : List AV} {ws : List V} {a : Addr} {k : Int} (ha : H1 a = some (.tup ws)) (hr : RVs μ1 xs ws) : ItR Γ μ1 H1 (.en k (.vs xs)) (AHE.IteT Γ.K a k) := fun i μ h H e r => by
  have ha' := e.tups _ _ ha
  have hr' := hr.mono e.le
  refine ⟨fun vs hi hit => ?_, fun hi hf => ?_⟩
  · cases q : (It.vs xs).one i h with
    | none => simp only [It.item, q] at hit; cases hit
    | some v =>
      simp only [It.item, q] at hit
      cases hit
      obtain ⟨x, q4, q5⟩ := Pd.get hr' (show xs[i]? = some v from q)
      refine ⟨⟨ws, x, SqT.of ha', q4⟩, fun x' H2 hy => ?_⟩
      obtain ⟨T, x'', rfl, hT, rfl, hy⟩ := hy
      have e2 := hy ws (SqT.of ha')
      rw [q4] at e2; cases e2
      exact Yl.pair r hT rfl q5
  · subst hi
    exact ⟨ws, SqT.of ha', by rw [← Pd.length hr]; exact Nat.le_refl _⟩
theorem itr_zip {n m n' m' : Nat} {a b : Addr} (hm : μ1 n = some a) (hm' : μ1 n' = some b) : ItR Γ μ1 H1 (.zp (.lv n m) (.lv n' m')) (Itz Γ.K a b) := fun i μ h H e r => by
  refine ⟨fun vs hi hit => ?_, fun hi hf => ?_⟩
  · simp only [It.item] at hit
    split at hit
    · rename_i v w q1 q2
      cases hit
      obtain ⟨xs, x, a1, a2, a3⟩ := lv_one r (e.le _ _ hm) q1
      obtain ⟨ys, y, b1, b2, b3⟩ := lv_one r (e.le _ _ hm') q2
      refine ⟨⟨xs, ys, x, y, a1, b1, a2, b2⟩, fun x' H2 hy => ?_⟩
      obtain ⟨T, x1, y1, rfl, hT, rfl, h1, h2⟩ := hy
      have e1 := h1 _ a1
      have e2 := h2 _ b1
      rw [a2] at e1; cases e1
      rw [b2] at e2; cases e2
      exact Yl.pair r hT a3 b3
    · cases hit
  · subst hi
    simp only [It.fin, Bool.and_eq_true] at hf
    obtain ⟨xs, a1, a2⟩ := lv_fin r (e.le _ _ hm) hf.1
    obtain ⟨ys, b1, b2⟩ := lv_fin r (e.le _ _ hm') hf.2
    refine ⟨xs, ys, a1, b1, ?_⟩
    simp only [It.len]
    omega
theorem itr_zipT {xs ys : List AV} {us ws : List V} {a b : Addr} (ha : H1 a = some (.tup us)) (hr : RVs μ1 xs us) (hb : H1 b = some (.tup ws)) (hr' : RVs μ1 ys ws) : ItR Γ μ1 H1 (.zp (.vs xs) (.vs ys)) (RZ.ItzT Γ.K a b) := fun i μ h H e r => by
  have ha' := e.tups _ _ ha
  have hb' := e.tups _ _ hb
  refine ⟨fun vs hi hit => ?_, fun hi hf => ?_⟩
  · simp only [It.item, It.one] at hit
    split at hit
    · rename_i v w q1 q2
      cases hit
      obtain ⟨x, a2, a3⟩ := Pd.get (hr.mono e.le) q1
      obtain ⟨y, b2, b3⟩ := Pd.get (hr'.mono e.le) q2
      refine ⟨⟨us, ws, x, y, SqT.of ha', SqT.of hb', a2, b2⟩, fun x' H2 hy => ?_⟩
      obtain ⟨T, x1, y1, rfl, hT, rfl, h1, h2⟩ := hy
      have e1 := h1 _ (SqT.of ha')
      have e2 := h2 _ (SqT.of hb')
      rw [a2] at e1; cases e1
      rw [b2] at e2; cases e2
      exact Yl.pair r hT a3 b3
    · cases hit
  · subst hi
    refine ⟨us, ws, SqT.of ha', SqT.of hb', ?_⟩
    simp only [It.len]
    rw [← Pd.length hr, ← Pd.length hr']
    omega
/-! ### iterables -/
theorem i_seq {e : E} {x : Expr} (hx : HX M N Γ C lm k sc cf W X) (he : PE X x (tE Γ W C e)) : PI X tg x (tI Γ W C (.seq e)) :=
  PI.imp (PI.or (pi_list he) (PI.or (pi_tup he) (pi_str he))) fun σ H R ⟨μ, h, σa, rl, rs, o⟩ => by
    have o0 : Out Γ W μ H ((evE C e σa h).bind fun v h1 => match seqIt h1 v with | some t => Rs.ok t h1 | none => .no) (ItR Γ) R := o
    cases q : evE C e σa h with
    | no => rw [q] at o0; exact o0.elim
    | ex c fs h1 => rw [q] at o0; exact .inl ⟨μ, h, σa, rl, rs, by rw [q]; exact o0⟩
    | ok v h1 =>
      rw [q] at o0
      have o0 : Out Γ W μ H (match seqIt h1 v with | some t => Rs.ok t h1 | none => .no) (ItR Γ) R := o0
      cases v with
      | non => exact o0.elim
      | bl _ => exact o0.elim
      | int _ => exact o0.elim
      | str z =>
        refine .inr (.inr ⟨μ, h, σa, rl, rs, ?_⟩)
        rw [q]
        intro μ1 H1 x e1 r1 rv
        obtain rfl := rv
        exact ⟨z, rfl, o0 μ1 H1 _ e1 r1 itr_str⟩
      | ref n =>
        have o0 : Out Γ W μ H (match (match h1.get n with | some (.lst xs) => some (It.lv n xs.length) | some (.scr xs) => some (It.lv n xs.length) | some (.tup xs) => some (It.vs xs) | _ => none) with | some t => Rs.ok t h1 | none => .no) (ItR Γ) R := o0
        cases g : h1.get n with
        | none => rw [g] at o0; exact o0.elim
        | some ob =>
          rw [g] at o0
          cases ob with
          | lst xs =>
            refine .inl ⟨μ, h, σa, rl, rs, ?_⟩
            rw [q]
            intro μ1 H1 x e1 r1 rv
            obtain ⟨a, vs, rfl, hm, q2, q3⟩ := r1.lst rv g
            exact ⟨a, rfl, by rw [hx.K]; exact ⟨vs, SqL.of q2⟩, by rw [hx.K]; exact o0 μ1 H1 _ e1 r1 (itr_list hm)⟩
          | scr xs =>
            refine .inl ⟨μ, h, σa, rl, rs, ?_⟩
            rw [q]
            intro μ1 H1 x e1 r1 rv
            obtain ⟨a, rfl, hm, q2⟩ := r1.scr rv g
            exact ⟨a, rfl, by rw [hx.K]; exact ⟨_, .inl q2⟩, by rw [hx.K]; exact o0 μ1 H1 _ e1 r1 (itr_list hm)⟩
          | tup xs =>
            refine .inr (.inl ⟨μ, h, σa, rl, rs, ?_⟩)
            rw [q]
            intro μ1 H1 x e1 r1 rv
            obtain ⟨a, vs, rfl, hm, q2, q3⟩ := r1.tup rv g
            exact ⟨a, rfl, by rw [hx.K]; exact ⟨vs, SqT.of q2⟩, by rw [hx.K]; exact o0 μ1 H1 _ e1 r1 (itr_tup q2 q3)⟩
          | dct _ => exact o0.elim
          | dctL _ => exact o0.elim
theorem rngOk_of {i : Int} (h : rngOk i = true) : -(2 ^ 62) ≤ i ∧ i < 2 ^ 62 ∧ -1073741824 < i ∧ i < 1073741824 := by
  simp only [rngOk, Bool.and_eq_true, decide_eq_true_eq] at h
  omega
theorem range_nm : nmOk ("range" : Str) = true := by decide +kernel
theorem i_rng1 {a : E} {x : Expr} {p : Pos} (hx : HX M N Γ C lm k sc cf W X) (hg : glb sc "range" = true) (hs : noStar x = true) (ha : PE X x (tE Γ W C a)) : PI X tg (.Call (.Name "range" p) [x] [] pos) (tI Γ W C (.rng1 a)) :=
  PI.imp (pi_range1 (hx.glb hg) (hx.bl _ (by decide +kernel)) (pa_cons ha pa_nil (star1 hs _ _)) (star1 hs _ _)) fun σ H R ⟨μ, h, σa, rl, rs, o⟩ => ⟨μ, h, σa, rl, rs, (Out.bind (RA := RVh) o (.refl _ _)).imp fun y H1 ⟨μ1, h1, v, _, e1, r1, rv, o1⟩ => by
    cases v with
    | int j =>
      obtain rfl := rv
      have o1 : Out Γ W μ H (if rngOk j then Rs.ok (.vs (rngL 0 j.toNat)) h1 else .no) (ItR Γ) R := o1
      split at o1
      · rename_i c
        obtain ⟨c1, c2, _, _⟩ := rngOk_of c
        exact ⟨j, rfl, c1, c2, o1 μ1 H1 _ e1 r1 itr_rng⟩
      · exact o1.elim
    | _ => exact o1.elim⟩
theorem i_rng2 {a b : E} {x y : Expr} {p : Pos} (hx : HX M N Γ C lm k sc cf W X) (hg : glb sc "range" = true) (hs : noStar x = true) (hs2 : noStar y = true) (ha : PE X x (tE Γ W C a)) (hb : PE X y (tE Γ W C b)) : PI X tg (.Call (.Name "range" p) [x, y] [] pos) (tI Γ W C (.rng2 a b)) :=
  PI.imp (pi_range2 (hx.glb hg) (hx.bl _ (by decide +kernel)) (pa_cons ha (pa_cons hb pa_nil (star1 hs2 _ _)) (star1 hs _ _)) (by rw [star1 hs, star1 hs2]; rfl) (star1 hs2 _ _)) fun σ H R ⟨μ, h, σa, rl, rs, o⟩ =>
    ⟨μ, h, σa, rl, rs, (Out.bind (RA := RVh) o (.refl _ _)).imp fun y H1 ⟨μ1, h1, v, _, e1, r1, rv, o1⟩ => ⟨μ1, h1, σa, r1, rs.mono e1.le, (Out.bind (RA := RVh) o1 e1).imp fun z H2 ⟨μ2, h2, w, _, e2, r2, rw_, o2⟩ => by
      cases v with
      | int i =>
        obtain rfl := rv
        cases w with
        | int j =>
          obtain rfl := rw_
          have o2 : Out Γ W μ H (if rngOk i && rngOk j then Rs.ok (.vs (rngL i (j - i).toNat)) h2 else .no) (ItR Γ) R := o2
          split at o2
          · rename_i c
            rw [Bool.and_eq_true] at c
            obtain ⟨c1, c2, _, _⟩ := rngOk_of c.1
            obtain ⟨d1, d2, _, _⟩ := rngOk_of c.2
            exact ⟨i, j, rfl, ⟨c1, c2, d1, d2⟩, o2 μ2 H2 _ (e1.trans e2) r2 itr_rng⟩
          · exact o2.elim
        | _ => exact o2.elim
      | _ => exact o2.elim⟩⟩
theorem enum_nm : nmOk ("enumerate" : Str) = true := by decide +kernel
/-- a list or a tuple that is walked -/
theorem sqIt_ok {v : AV} {x : V} {t : It} (r : Rel Γ μ h H) (rv : RV μ v x) (q : sqIt h v = some t) : ∃ a, x = .ref a ∧ ((∃ n m ws, t = .lv n m ∧ μ n = some a ∧ SqL Γ.K H a ws) ∨ ∃ xs ws, t = .vs xs ∧ H a = some (.tup ws) ∧ RVs μ xs ws) := by
  unfold sqIt at q
  split at q
  · split at q
    · rename_i ys g
      cases q
      obtain ⟨a, vs, rfl, hm, q2, q3⟩ := r.lst rv g
      exact ⟨a, rfl, .inl ⟨_, _, vs, rfl, hm, SqL.of q2⟩⟩
    · rename_i ys g
      cases q
      obtain ⟨a, rfl, hm, q2⟩ := r.scr rv g
      exact ⟨a, rfl, .inl ⟨_, _, _, rfl, hm, .inl q2⟩⟩
    · rename_i ys g
      cases q
      obtain ⟨a, vs, rfl, hm, q2, q3⟩ := r.tup rv g
      exact ⟨a, rfl, .inr ⟨_, vs, rfl, q2, q3⟩⟩
    · cases q
  · cases q
theorem en_ok {v : AV} {x : V} {t : It} {k : Int} {R : L2.It → Hp → Prop} {μ0 : Mu} {H0 : Hp} (r : Rel Γ μ h H) (rv : RV μ v x) (q : sqIt h v = some t) (e : Ext μ0 H0 μ H) (o : Out Γ W μ0 H0 (.ok (.en k t) h) (ItR Γ) R) : AHE.iEn Γ.K x k H R := by
  obtain ⟨a, rfl, c⟩ := sqIt_ok r rv q
  rcases c with ⟨n, m, ws, rfl, hm, hs⟩ | ⟨xs, ws, rfl, hs, hr⟩
  · exact ⟨a, ws, rfl, .inl ⟨hs, o μ H _ e r (itr_enL hm)⟩⟩
  · exact ⟨a, ws, rfl, .inr ⟨SqT.of hs, o μ H _ e r (itr_enT hs hr)⟩⟩
theorem i_enum {e : E} {x : Expr} {p tp : Pos} {es : List Expr} {kk : Nat} (hx : HX M N Γ C lm k sc cf W X) (hg : glb sc "enumerate" = true) (hs : noStar x = true) (he : PE X x (tE Γ W C e)) :
    PI X (.Tuple es kk tp) (.Call (.Name "enumerate" p) [x] [] pos) (tI Γ W C (.enum e)) :=
  PI.imp (AHE.pi_enumA (hx.glb hg) (hx.bl _ (by decide +kernel)) (pa_cons he pa_nil (star1 hs _ _)) (star1 hs _ _)) fun σ H R ⟨μ, h, σa, rl, rs, o⟩ => ⟨μ, h, σa, rl, rs, (Out.bind (RA := RVh) o (.refl _ _)).imp fun y H1 ⟨μ1, h1, v, _, e1, r1, rv, o1⟩ => by
    cases q : sqIt h1 v with
    | none => rw [q] at o1; exact o1.elim
    | some t => rw [q] at o1; exact ⟨y, rfl, by rw [hx.K]; exact en_ok r1 rv q e1 o1⟩⟩
theorem i_enumS {e s : E} {x z : Expr} {p tp : Pos} {es : List Expr} {kk : Nat} (hx : HX M N Γ C lm k sc cf W X) (hg : glb sc "enumerate" = true) (hs : noStar x = true) (hs2 : noStar z = true) (he : PE X x (tE Γ W C e)) (hz : PE X z (tE Γ W C s)) :
    PI X (.Tuple es kk tp) (.Call (.Name "enumerate" p) [x, z] [] pos) (tI Γ W C (.enumS e s)) :=
  PI.imp (AHE.pi_enumB (hx.glb hg) (hx.bl _ (by decide +kernel)) (pa_cons he (pa_cons hz pa_nil (star1 hs2 _ _)) (star1 hs _ _)) (star1 hs _ _) (by rw [star1 hs2]; rfl)) fun σ H R ⟨μ, h, σa, rl, rs, o⟩ => ⟨μ, h, σa, rl, rs, (Out.bind (RA := RVh) o (.refl _ _)).imp fun y H1 ⟨μ1, h1, v, _, e1, r1, rv, o1⟩ =>
    ⟨μ1, h1, σa, r1, rs.mono e1.le, (Out.bind (RA := RVh) o1 e1).imp fun u H2 ⟨μ2, h2, w, _, e2, r2, rw_, o2⟩ => by
    cases q : sqIt h2 v with
    | none => rw [q] at o2; exact o2.elim
    | some t =>
      rw [q] at o2
      cases w with
      | int i =>
        obtain rfl := rw_
        have o2 : Out Γ W μ H (if rngOk i then Rs.ok (.en i t) h2 else .no) (ItR Γ) R := o2
        split at o2
        · rename_i c
          obtain ⟨c1, c2, _, _⟩ := rngOk_of c
          exact ⟨y, i, rfl, c1, c2, by rw [hx.K]; exact en_ok r2 (rv.mono e2.le) q (e1.trans e2) o2⟩
        · exact o2.elim
      | _ => exact o2.elim⟩⟩
theorem i_zip {a b : E} {x z : Expr} {p tp : Pos} {es : List Expr} {kk : Nat} (hx : HX M N Γ C lm k sc cf W X) (hg : glb sc "zip" = true) (hs : noStar x = true) (hs2 : noStar z = true) (he : PE X x (tE Γ W C a)) (hz : PE X z (tE Γ W C b)) :
    PI X (.Tuple es kk tp) (.Call (.Name "zip" p) [x, z] [] pos) (tI Γ W C (.zip a b)) :=
  PI.imp (RZ.pi_zipA (hx.glb hg) (hx.bl _ (by decide +kernel)) (pa_cons he (pa_cons hz pa_nil (star1 hs2 _ _)) (star1 hs _ _)) (star1 hs _ _) (by rw [star1 hs2]; rfl)) fun σ H R ⟨μ, h, σa, rl, rs, o⟩ => ⟨μ, h, σa, rl, rs, (Out.bind (RA := RVh) o (.refl _ _)).imp fun y H1 ⟨μ1, h1, v, _, e1, r1, rv, o1⟩ =>
    ⟨μ1, h1, σa, r1, rs.mono e1.le, (Out.bind (RA := RVh) o1 e1).imp fun u H2 ⟨μ2, h2, w, _, e2, r2, rw_, o2⟩ => by
    rw [hx.K]
    have rv2 := RV.mono e2.le rv
    cases q : zpIt h2 v w with
    | none => rw [q] at o2; exact o2.elim
    | some t =>
      rw [q] at o2
      unfold zpIt at q
      split at q
      · rename_i a n b m q1 q2
        cases q
        obtain ⟨c, rfl, d⟩ := sqIt_ok r2 rv2 q1
        obtain ⟨c', rfl, d'⟩ := sqIt_ok r2 rw_ q2
        rcases d with ⟨n1, m1, ws, ee, hm, hs⟩ | ⟨xs, ws, ee, _⟩
        · cases ee
          rcases d' with ⟨n2, m2, ws', ee, hm', hs'⟩ | ⟨xs, ws', ee, _⟩
          · cases ee
            exact ⟨c, c', ws, ws', rfl, .inl ⟨hs, hs', o2 μ2 H2 _ (e1.trans e2) r2 (itr_zip hm hm')⟩⟩
          · cases ee
        · cases ee
      · rename_i xs ys q1 q2
        cases q
        obtain ⟨c, rfl, d⟩ := sqIt_ok r2 rv2 q1
        obtain ⟨c', rfl, d'⟩ := sqIt_ok r2 rw_ q2
        rcases d with ⟨n1, m1, ws, ee, hm, hs⟩ | ⟨xs', ws, ee, hs, hr⟩
        · cases ee
        · cases ee
          rcases d' with ⟨n2, m2, ws', ee, hm', hs'⟩ | ⟨ys', ws', ee, hs', hr'⟩
          · cases ee
          · cases ee
            exact ⟨c, c', ws, ws', rfl, .inr ⟨SqT.of hs, SqT.of hs', o2 μ2 H2 _ (e1.trans e2) r2 (itr_zipT hs hr hs' hr')⟩⟩
      · cases q⟩⟩
/-- range(a, b, c) -/
theorem rng_bad : True := trivial
end
end AH

set_option Elab.async false
set_option linter.all false
set_option maxRecDepth 100000
set_option maxHeartbeats 4000000
/-! AH10: targets, comprehensions. -/
namespace AH
open PySem PySem.Spec L2
theorem PG.or {X : Cx} {g : Expr} {t t' : TG} (p : PG X g t) (p' : PG X g t') : PG X g (fun v σ H Q => t v σ H Q ∨ t' v σ H Q) := ⟨fun pins s σ H v u Q I r h => h.elim (p.run pins s σ H v u Q I r) (p'.run pins s σ H v u Q I r)⟩
def Gs.len : Gs → Nat
  | .nil => 0
  | .cons _ r => r.len + 1
mutual
def gR (K : PySem.W.Frag) : G → TG
  | .nm i => gName i
  | .tp gs => fun v σ H Q => gTup K gs.len (gsR K gs) v σ H Q ∨ gUnl K gs.len (gsR K gs) v σ H Q
def gsR (K : PySem.W.Frag) : Gs → TGs
  | .nil => gNil
  | .cons g r => gCons (gR K g) (gsR K r)
end
def lcl (sc : Scope) (cf : Str → Bool) (x : Str) : Bool := match sc.names.lookup x with
  | some .local => true
  | some .cell => cf x
  | _ => false
mutual
def chkG (N : List Str) (sc : Scope) (cf : Str → Bool) : G → Expr → Bool
  | .nm i, .Name x _ => decide (N[i]? = some x) && lcl sc cf x
  | .tp gs, .Tuple es _ _ => chkGs N sc cf gs es
  | _, _ => false
def chkGs (N : List Str) (sc : Scope) (cf : Str → Bool) : Gs → List Expr → Bool
  | .nil, [] => true
  | .cons g r, e :: es => noStar e && chkG N sc cf g e && chkGs N sc cf r es
  | _, _ => false
end
mutual
def G.slots : G → List Nat
  | .nm i => [i]
  | .tp gs => gs.slots
def Gs.slots : Gs → List Nat
  | .nil => []
  | .cons g r => g.slots ++ r.slots
end
theorem assign1 {e : Expr} (h : noStar e = true) (es : List Expr) (env : Env) : assignEach (e :: es) env = (false, assign e env) :: assignEach es env := by
  cases e <;> first | rfl | cases h
section
variable {M : Nm} {N : List Str} {Γ : Gm} {C : Cf} {lm : Bool} {k : Nat} {sc : Scope} {cf : Str → Bool} {W : XK} {X : Cx} {pos : Pos} {μ μ1 : Mu} {h : AHp} {H H1 : Hp} {tg : Expr}
mutual
theorem g_ok (hx : HX M N Γ C lm k sc cf W X) : ∀ (g : G) (e : Expr), chkG N sc cf g e = true → PG X e (gR X.K g)
  | .nm i, e, hc => by
    cases e with
    | Name x p =>
      simp only [chkG, Bool.and_eq_true, decide_eq_true_eq] at hc
      obtain ⟨h1, h2⟩ := hc
      have hN : X.N[i]? = some x := by rw [hx.hN]; exact h1
      have nd : X.N.Nodup := by rw [hx.hN]; exact hx.nd
      unfold lcl at h2
      split at h2
      · rename_i e
        have e' : X.env.scope.names.lookup x = some .local := by rw [hx.sc]; exact e
        exact pg_name nd hN (.inl e') (.inr e')
      · rename_i e
        have e' : X.env.scope.names.lookup x = some .cell := by rw [hx.sc]; exact e
        exact pg_name nd hN (.inr e') (.inl (hx.fnc x h2))
      · cases h2
    | _ => simp [chkG] at hc
  | .tp gs, e, hc => by
    cases e with
    | Tuple es kk p =>
      have hc : chkGs N sc cf gs es = true := by simpa [chkG] using hc
      obtain ⟨h1, h2, h3⟩ := gs_ok hx gs es hc
      exact PG.or (pg_tup hx.calm h1 h2 h3) (pg_unl hx.calm h1 h2 h3)
    | _ => simp [chkG] at hc
theorem gs_ok (hx : HX M N Γ C lm k sc cf W X) : ∀ (gs : Gs) (es : List Expr), chkGs N sc cf gs es = true → PGs X es (gsR X.K gs) ∧ (assignEach es X.env).length = gs.len ∧ (assignEach es X.env).findIdx? (·.1) = none
  | .nil, es, hc => by
    cases es with
    | nil => exact ⟨pgs_nil, rfl, rfl⟩
    | cons _ _ => simp [chkGs] at hc
  | .cons g r, es, hc => by
    cases es with
    | nil => simp [chkGs] at hc
    | cons e es =>
      simp only [chkGs, Bool.and_eq_true] at hc
      obtain ⟨⟨h1, h2⟩, h3⟩ := hc
      obtain ⟨a, b, c⟩ := gs_ok hx r es h3
      have e1 := assign1 h1 es X.env
      refine ⟨pgs_cons (g_ok hx g e h2) a (by rw [e1]; rfl), by rw [e1, List.length_cons, b]; rfl, ?_⟩
      rw [e1, List.findIdx?_cons, c]
      rfl
end
theorem RS.set {σa : Sl} {σ : St} (r : RS μ σa σ) {i : Nat} {v : AV} {x : V} (rv : RV μ v x) : RS μ (σa.set i (some v)) (σ.set i (some x)) := by
  refine ⟨by rw [List.length_set, List.length_set]; exact r.1, fun j w e => ?_⟩
  by_cases hj : i = j
  · subst hj
    by_cases hl : i < σa.length
    · rw [List.getElem?_set_self hl] at e; cases e
      exact ⟨x, List.getElem?_set_self (by rw [← r.1]; exact hl), rv⟩
    · rw [List.getElem?_eq_none (by simpa using hl)] at e; cases e
  · rw [List.getElem?_set_ne hj] at e ⊢
    exact r.2 j w e
theorem RS.wipe {σa : Sl} {σ : St} (r : RS μ σa σ) : ∀ vs : List Nat, RS μ (wipeA σa vs) (L2.wipe σ vs)
  | [] => r
  | v :: vs => by
    have ih := RS.wipe r vs
    refine ⟨by simp only [wipeA, L2.wipe, List.length_set]; exact ih.1, fun j w e => ?_⟩
    simp only [wipeA, L2.wipe] at e ⊢
    by_cases hj : v = j
    · subst hj
      by_cases hl : v < (wipeA σa vs).length
      · rw [List.getElem?_set_self hl] at e; cases e
      · rw [List.getElem?_eq_none (by simpa using hl)] at e; cases e
    · rw [List.getElem?_set_ne hj] at e ⊢
      exact ih.2 j w e
theorem wipe_set_in (σ : St) (i : Nat) (x : Option V) : ∀ vs : List Nat, i ∈ vs → L2.wipe (σ.set i x) vs = L2.wipe σ vs
  | v :: vs, h => by
    simp only [L2.wipe]
    by_cases hm : i ∈ vs
    · rw [wipe_set_in σ i x vs hm]
    · have e : i = v := by
        rcases List.mem_cons.mp h with h | h
        · exact h
        · exact absurd h hm
      subst e
      have : ∀ ws : List Nat, i ∉ ws → L2.wipe (σ.set i x) ws = (L2.wipe σ ws).set i x := by
        intro ws
        induction ws with
        | nil => intro _; rfl
        | cons w ws ih =>
          intro hw
          simp only [L2.wipe]
          rw [ih (fun z => hw (List.mem_cons_of_mem _ z)), List.set_comm _ _ (fun z => hw (by rw [z]; exact List.mem_cons_self))]
      rw [this vs hm, List.set_set]

theorem wipe_mem (σ : St) (i : Nat) : ∀ vs : List Nat, i ∈ vs → (L2.wipe σ vs).set i none = L2.wipe σ vs
  | v :: vs, h => by
    simp only [L2.wipe]
    by_cases e : i = v
    · subst e; rw [List.set_set]
    · have hm : i ∈ vs := by
        rcases List.mem_cons.mp h with h | h
        · exact absurd h e
        · exact h
      rw [List.set_comm _ _ (fun z => e z.symm), wipe_mem σ i vs hm]
theorem wipe_sub (σ : St) (ws : List Nat) : ∀ vs : List Nat, (∀ i ∈ vs, i ∈ ws) → L2.wipe (L2.wipe σ ws) vs = L2.wipe σ ws
  | [], _ => rfl
  | v :: vs, h => by
    simp only [L2.wipe]
    rw [wipe_sub σ ws vs (fun i hi => h i (List.mem_cons_of_mem _ hi)), wipe_mem σ v ws (h v List.mem_cons_self)]
theorem wipe_wipe (σ : St) (vs : List Nat) : L2.wipe (L2.wipe σ vs) vs = L2.wipe σ vs := wipe_sub σ vs vs fun _ h => h
mutual
theorem bndG_ok (r : Rel Γ μ h H) (vs : List Nat) : ∀ (g : G) (v : AV) (x : V) (σ : St) (σa σa' : Sl) (Q : St → Hp → Prop), (∀ i ∈ g.slots, i ∈ vs) → RV μ v x → RS μ σa σ → bindG h g v σa = some σa' →
    (∀ σ', RS μ σa' σ' → L2.wipe σ' vs = L2.wipe σ vs → Q σ' H) → gR Γ.K g x σ H Q
  | .nm i, v, x, σ, σa, σa', Q, hs, rv, rs, e, q => by
    simp only [bindG] at e
    cases e
    exact q _ (rs.set rv) (wipe_set_in σ i _ vs (hs i (by simp [G.slots])))
  | .tp gs, v, x, σ, σa, σa', Q, hs, rv, rs, e, q => by
    cases v with
    | ref n =>
      simp only [bindG] at e
      split at e
      · rename_i xs g
        obtain ⟨a, ws, rfl, hm, q2, q3⟩ := r.tup rv g
        exact .inl ⟨a, ws, rfl, SqT.of q2, bndGs_len r gs xs σa σa' e ▸ (Pd.length q3).symm, bndGs_ok r vs gs xs ws σ σa σa' Q (by simpa [G.slots] using hs) q3 rs e q⟩
      · rename_i xs g
        obtain ⟨a, ws, rfl, hm, q2, q3⟩ := r.lst rv g
        exact .inr ⟨a, ws, rfl, SqL.of q2, bndGs_len r gs xs σa σa' e ▸ (Pd.length q3).symm, bndGs_ok r vs gs xs ws σ σa σa' Q (by simpa [G.slots] using hs) q3 rs e q⟩
      · cases e
    | _ => simp [bindG] at e
theorem bndGs_ok (r : Rel Γ μ h H) (vs : List Nat) : ∀ (gs : Gs) (xs : List AV) (ys : List V) (σ : St) (σa σa' : Sl) (Q : St → Hp → Prop), (∀ i ∈ gs.slots, i ∈ vs) → RVs μ xs ys → RS μ σa σ → bindGs h gs xs σa = some σa' →
    (∀ σ', RS μ σa' σ' → L2.wipe σ' vs = L2.wipe σ vs → Q σ' H) → gsR Γ.K gs ys σ H Q
  | .nil, xs, ys, σ, σa, σa', Q, hs, rv, rs, e, q => by
    cases rv with
    | nil => simp only [bindGs] at e; cases e; exact ⟨rfl, q σ rs rfl⟩
    | cons _ _ => simp [bindGs] at e
  | .cons g gr, xs, ys, σ, σa, σa', Q, hs, rv, rs, e, q => by
    cases rv with
    | nil => simp [bindGs] at e
    | @cons v x xr yr r1 r2 =>
      simp only [bindGs] at e
      cases e1 : bindG h g v σa with
      | none => rw [e1] at e; cases e
      | some σ1 =>
        rw [e1] at e
        have e : bindGs h gr xr σ1 = some σa' := e
        refine ⟨x, yr, rfl, bndG_ok r vs g v x σ σa σ1 _ (fun i hi => hs i (by simp [Gs.slots, hi])) r1 rs e1 fun σ' rs' ew => ?_⟩
        exact bndGs_ok r vs gr xr yr σ' σ1 σa' Q (fun i hi => hs i (by simp [Gs.slots, hi])) r2 rs' e fun σ'' rs'' ew' => q σ'' rs'' (ew'.trans ew)
theorem bndGs_len (r : Rel Γ μ h H) : ∀ (gs : Gs) (xs : List AV) (σa σa' : Sl), bindGs h gs xs σa = some σa' → xs.length = gs.len
  | .nil, xs, σa, σa', e => by
    cases xs with
    | nil => rfl
    | cons _ _ => simp [bindGs] at e
  | .cons g gr, xs, σa, σa', e => by
    cases xs with
    | nil => simp [bindGs] at e
    | cons v xr =>
      simp only [bindGs] at e
      cases e1 : bindG h g v σa with
      | none => rw [e1] at e; cases e
      | some σ1 =>
        rw [e1] at e
        have e : bindGs h gr xr σ1 = some σa' := e
        simp only [List.length_cons, Gs.len]
        rw [bndGs_len r gr xr σ1 σa' e]
end
/-- what a walk hands over is bound -/
theorem bindIt_ok {g : G} {us : List AV} {x : V} {σ : St} {σa σa' : Sl} {H2 : Hp} {Q : St → Hp → Prop} (vs : List Nat) (hs : ∀ i ∈ g.slots, i ∈ vs) (y : Yl Γ μ h H us x H2) (rs : RS μ σa σ) (e : bindIt h g us σa = some σa')
    (q : ∀ σ', RS μ σa' σ' → L2.wipe σ' vs = L2.wipe σ vs → Q σ' H2) : gR Γ.K g x σ H2 Q := by
  obtain ⟨r2, e2, y⟩ := y
  rcases y with ⟨v, rfl, rv⟩ | ⟨v, w, p, y, z, rfl, rfl, hp, ry, rz⟩
  · have e : bindG h g v σa = some σa' := by cases g <;> exact e
    exact bndG_ok r2 vs g v x σ σa σa' Q hs rv rs e q
  · cases g with
    | nm i => simp [bindIt] at e
    | tp gs =>
      have e : bindGs h gs [v, w] σa = some σa' := e
      exact .inl ⟨p, [y, z], rfl, SqT.of hp, by have := bndGs_len r2 gs _ _ _ e; simpa using this, bndGs_ok r2 vs gs _ _ σ σa σa' Q (by simpa [G.slots] using hs) (.cons ry (.cons rz .nil)) rs e q⟩
end
end AH

set_option Elab.async false
set_option linter.all false
set_option maxRecDepth 100000
set_option maxHeartbeats 4000000
/-! AH11: comprehensions. -/
namespace AH
open PySem PySem.Spec L2
def noW : XK := fun _ _ _ => False
theorem Rs.bind_assoc {α β γ : Type} (r : Rs α) (f : α → AHp → Rs β) (g : β → AHp → Rs γ) : (r.bind f).bind g = r.bind fun a h => (f a h).bind g := by cases r <;> rfl
theorem Rs.noex_bind {α β : Type} (r : Rs α) (f : α → AHp → Rs β) : (r.bind f).noex = r.noex.bind fun a h => (f a h).noex := by cases r <;> rfl
section
variable {M : Nm} {N : List Str} {Γ : Gm} {C : Cf} {lm : Bool} {k : Nat} {sc : Scope} {cf : Str → Bool} {W : XK} {X : Cx} {pos : Pos} {μ μ0 μ1 : Mu} {h : AHp} {H H0 H1 : Hp} {tg : Expr}
theorem Out.noexb {α β γ δ : Type} {r : Rs α} {f : α → AHp → Rs γ} {RA : Mu → Hp → α → β → Prop} {RB : Mu → Hp → γ → δ → Prop} {Q : δ → Hp → Prop} (o : Out Γ W μ0 H0 (r.noex.bind f) RB Q) :
    Out Γ noW μ H r RA (fun x H1 => ∃ μ1 h1 v, r = .ok v h1 ∧ Ext μ H μ1 H1 ∧ Rel Γ μ1 h1 H1 ∧ RA μ1 H1 v x ∧ Out Γ W μ0 H0 (f v h1) RB Q) := by
  cases r with
  | ok v h1 => exact fun μ1 H1 x e rl ra => ⟨μ1, h1, v, rfl, e, rl, ra, o⟩
  | ex c fs h1 => exact o.elim
  | no => exact o
def ownC (scope : Scope) (x : Str) : Bool := scope.names.lookup x == some .cell
theorem HX.blk (hx : HX M N Γ C lm k sc cf W X) (s : Shared) (H : Hp) (scope : Scope) (cl : List (Str × Addr)) (D : Addr) (fp : List Addr) :
    HX M N Γ C false k (relS scope sc) (ownC scope) noW (X.blk s H scope (compEnvC scope cl D X.env) fp) where
  fnc := fun x h => h
  hN := hx.hN
  nd := hx.nd
  sc := by rw [← hx.sc]; rfl
  K := hx.K
  calm := hx.calm
  room := hx.room
  tk := takes_none5
  ps := PassesOwn.never
  fn := hx.fn
  bl := hx.bl
  k3 := hx.k3
  cl := hx.cl
  xm := hx.xm
  mt := hx.mt
  lam := fun z => by cases z
  con := hx.con
/-- a turn: target, test, element -/
def turnF (g : G) (σ1 : Sl) (te : Sl → AHp → Rs Bool) (ee : Sl → AHp → Rs AV) (vs : List AV) (h : AHp) : Rs (Option AV) := match bindIt h g vs σ1 with
  | some σ2 => (te σ2 h).bind fun b h3 => if b then (ee σ2 h3).bind fun v h4 => .ok (some v) h4 else .ok none h3
  | none => .no
theorem lc_read {g : G} {it : I} {tt : TT} {tev : TE} {te : Sl → AHp → Rs Bool} {ee : Sl → AHp → Rs AV} {own : List Nat} (hK : X.K = Γ.K) (hs : ∀ i ∈ g.slots, i ∈ own)
    (htt : ∀ (σ : St) (H : Hp) (Q : Bool → Hp → Prop) (μ : Mu) (h : AHp) (σa : Sl), Rel Γ μ h H → RS μ σa σ → Out Γ noW μ H (te σa h) RB Q → tt σ H Q)
    (hte : ∀ (σ : St) (H : Hp) (Q : V → Hp → Prop) (μ : Mu) (h : AHp) (σa : Sl), Rel Γ μ h H → RS μ σa σ → Out Γ noW μ H (ee σa h) RVh Q → tev σ H Q)
    {σ : St} {σa : Sl} {Q : V → Hp → Prop} (rl : Rel Γ μ h H) (rs : RS μ σa σ)
    (o : Out Γ W μ H ((evI C it σa h).bind fun t h1 => (compGo t (turnF g (wipeA σa own) te ee) t.len 0 [] h1).bind fun xs h4 => .ok (.ref h4.n) (h4.add (.lst xs))) RVh Q) :
    tLc (tI Γ W C it) (gR X.K g) tt tev own σ H Q := by
  refine ⟨μ, h, σa, rl, rs, (Out.bind (RA := ItR Γ) o (.refl _ _)).imp fun J H1 ⟨μ1, h1, t, _, e1, r1, hJ, o1⟩ D hD => ?_⟩
  let alloc : List AV → AHp → Rs AV := fun xs h4 => .ok (.ref h4.n) (h4.add (.lst xs))
  refine ⟨fun i m Hc => ∃ μ2 h2 acc accV, i + m = t.len ∧ Ext μ1 H1 μ2 Hc ∧ Rel Γ μ2 h2 Hc ∧ (∀ j, μ2 j ≠ some D) ∧ Hc D = some (.lst accV) ∧ RVs μ2 acc accV ∧ Out Γ W μ H ((compGo t (turnF g (wipeA σa own) te ee) m i acc h2).bind alloc) RVh Q, ⟨t.len, ?_⟩, ?_⟩
  · obtain ⟨r2, e2⟩ := r1.other (u := .lst []) hD
    exact ⟨μ1, h1, [], [], by omega, e2, r2, fun j q => r1.ne j D q hD, upd_same, .nil, o1⟩
  · rintro i m Hc ⟨μ2, h2, acc, accV, him, e2, r2, nD, hDc, ra, o2⟩
    cases m with
    | zero =>
      left
      simp only [compGo] at o2
      split at o2
      · rename_i hf
        refine ⟨((hJ i μ2 h2 Hc e2 r2).2 (by omega) hf), ?_⟩
        refine o2 (μ2.add h2.n D) Hc (.ref D) (e1.trans (e2.adopt (r2.fresh (Nat.le_refl _)) hD)) (r2.adopt (by rw [hDc]; simp) nD ⟨accV, hDc, ra.mono r2.addLe⟩) ⟨D, Mu.add_same, rfl⟩
      · exact o2.elim
    | succ m =>
      right
      simp only [compGo] at o2
      split at o2
      · rename_i vs hit
        obtain ⟨hgo, hyld⟩ := (hJ i μ2 h2 Hc e2 r2).1 vs (by omega) hit
        refine ⟨hgo, fun H' => ∃ μ3 h3 acc3 accV3, (i + 1) + m = t.len ∧ Ext μ1 H1 μ3 H' ∧ Rel Γ μ3 h3 H' ∧ (∀ j, μ3 j ≠ some D) ∧ H' D = some (.lst accV3) ∧ RVs μ3 acc3 accV3 ∧ Out Γ W μ H ((compGo t (turnF g (wipeA σa own) te ee) m (i + 1) acc3 h3).bind alloc) RVh Q, fun H' hN => ⟨m, Nat.lt_succ_self m, hN⟩, fun x H' hy => ?_⟩
        have Y := hyld x H' hy
        rw [hK]
        unfold turnF at o2
        cases hb : bindIt h2 g vs (wipeA σa own) with
        | none => rw [hb] at o2; exact o2.elim
        | some σ2a =>
          rw [hb] at o2
          have rs2 : RS μ2 (wipeA σa own) (L2.wipe σ own) := RS.wipe ((rs.mono e1.le).mono e2.le) own
          refine bindIt_ok own hs Y rs2 hb fun σ2 rs3 ew => ⟨?_, ?_⟩
          · rw [ew]
            exact wipe_wipe σ own
          · obtain ⟨r3, e3, _⟩ := Y
            have hD3 : H' D = some (.lst accV) := e3.fr D _ hDc (fun ps z => by cases z) nD
            rw [Rs.noex_bind, Rs.bind_assoc, Rs.bind_assoc] at o2
            refine htt σ2 H' _ μ2 h2 σ2a r3 rs3 ((Out.noexb (RA := RB) o2).imp fun b H3 ⟨μ3, h3, b', _, e4, r4, rb, o3⟩ => ?_)
            obtain rfl := rb
            have nD3 := e4.nim nD hD3 (fun ps z => by cases z)
            have hD4 : H3 D = some (.lst accV) := e4.fr D _ hD3 (fun ps z => by cases z) nD
            cases b' with
            | false =>
              rw [if_neg (by simp)]
              exact ⟨μ3, h3, acc, accV, by omega, (e2.trans e3).trans e4, r4, nD3, hD4, ra.mono e4.le, o3⟩
            | true =>
              rw [if_pos rfl]
              simp only [if_true] at o3
              rw [Rs.noex_bind, Rs.bind_assoc] at o3
              refine hte σ2 H3 _ μ3 h3 σ2a r4 (rs3.mono e4.le) ((Out.noexb (RA := RVh) o3).imp fun y H4 ⟨μ4, h4, v, _, e5, r5, rv, o4⟩ => ?_)
              have nD4 := e5.nim nD3 hD4 (fun ps z => by cases z)
              have hD5 : H4 D = some (.lst accV) := e5.fr D _ hD4 (fun ps z => by cases z) nD3
              have o4 : Out Γ W μ H ((if Nat.blt acc.length 16777216 then compGo t (turnF g (wipeA σa own) te ee) m (i + 1) (acc ++ [v]) h4 else .no).bind alloc) RVh Q := o4
              have ra5 := (ra.mono e4.le).mono e5.le
              split at o4
              · rename_i c
                refine ⟨accV, hD5, by rw [← Pd.length ra]; exact blt_lt c, μ4, h4, acc ++ [v], accV ++ [y], by omega, ?_, ?_, nD4, upd_same, Pd.append ra5 (.cons rv .nil), o4⟩
                · exact (((e2.trans e3).trans e4).trans e5).outer hD
                · exact r5.outer nD4 hD5 (fun ps z => by cases z) (fun c q z => by unfold LamX.CodeO at z; cases z)
              · exact o4.elim
      · exact o2.elim
end
end AH

set_option Elab.async false
set_option linter.all false
set_option maxRecDepth 100000
set_option maxHeartbeats 4000000
/-! AH12: list comprehensions, locks, keys, methods, conversions. -/
namespace AH
open PySem PySem.Spec L2
section
variable {M : Nm} {N : List Str} {Γ : Gm} {C : Cf} {lm : Bool} {k : Nat} {sc : Scope} {cf : Str → Bool} {W : XK} {X : Cx} {pos : Pos} {μ μ0 μ1 : Mu} {h : AHp} {H H0 H1 : Hp} {tg : Expr}
/-! ### comprehensions -/
def ownP (N : List Str) (own : List Nat) : List (Str × Nat) := own.map fun i => ((N[i]?).getD "", i)
theorem ownP_map (N : List Str) (own : List Nat) : (ownP N own).map (·.2) = own := by
  unfold ownP
  rw [List.map_map]
  exact List.map_id _
def ownOk (N : List Str) (sc scope : Scope) (own : List Nat) (g : G) : Bool := blkC N sc scope (ownP N own) && g.slots.all fun i => own.contains i
theorem ownOk_slots {scope : Scope} {own : List Nat} {g : G} (h : ownOk N sc scope own g = true) : ∀ i ∈ g.slots, i ∈ own := fun i hi => by
  unfold ownOk at h
  rw [Bool.and_eq_true, List.all_eq_true] at h
  have := h.2 i hi
  simpa using this
theorem ownOk_blk (hx : HX M N Γ C lm k sc cf W X) {scope : Scope} {own : List Nat} {g : G} (h : ownOk N sc scope own g = true) : BlkOk X.N X.env.scope scope (ownP N own) := by
  unfold ownOk at h
  rw [Bool.and_eq_true] at h
  rw [hx.hN, hx.sc]
  exact blkOk_by h.1
theorem PTs.imp {X : Cx} {e : List Expr} {t t' : TT} (p : PTs X e t) (f : ∀ σ H Q, t' σ H Q → t σ H Q) : PTs X e t' := ⟨fun pins s σ H Q I h => p.run pins s σ H Q I (f σ H Q h)⟩
/-- what a block's parts do -/
abbrev Blk (M : Nm) (N : List Str) (Γ : Gm) (C : Cf) (k : Nat) (scope sc : Scope) (P : Cx → Prop) : Prop := ∀ X', HX M N Γ C false k (relS scope sc) (ownC scope) noW X' → P X'
theorem lc_go {e : E} {g : G} {it : I} {own : List Nat} {σ : St} {H : Hp} {Q : V → Hp → Prop} (hx : HX M N Γ C lm k sc cf W X) (hs : ∀ i ∈ g.slots, i ∈ own) (q : tE Γ W C (.lc e g it own) σ H Q) : tLc (tI Γ W C it) (gR Γ.K g) tYes (tE Γ noW C e) own σ H Q := by
  obtain ⟨μ, h, σa, rl, rs, o⟩ := q
  rw [← hx.K]
  refine lc_read (te := fun _ h => .ok true h) (ee := fun σ h => evE C e σ h) hx.K hs (fun σ H Q μ h σa rl rs o => o.here rl rfl) (fun σ H Q μ h σa rl rs o => ⟨μ, h, σa, rl, rs, o⟩) rl rs ?_
  simp only [evE] at o
  exact o
theorem lcf_go {e c : E} {g : G} {it : I} {own : List Nat} {σ : St} {H : Hp} {Q : V → Hp → Prop} (hx : HX M N Γ C lm k sc cf W X) (hs : ∀ i ∈ g.slots, i ∈ own) (q : tE Γ W C (.lcf e g it c own) σ H Q) : tLc (tI Γ W C it) (gR Γ.K g) (tT Γ noW C c) (tE Γ noW C e) own σ H Q := by
  obtain ⟨μ, h, σa, rl, rs, o⟩ := q
  rw [← hx.K]
  refine lc_read (te := fun σ h => truthR (evE C c σ h)) (ee := fun σ h => evE C e σ h) hx.K hs (fun σ H Q μ h σa rl rs o => ⟨μ, h, σa, rl, rs, o⟩) (fun σ H Q μ h σa rl rs o => ⟨μ, h, σa, rl, rs, o⟩) rl rs ?_
  simp only [evE] at o
  exact o
theorem blk_g (hx : HX M N Γ C lm k sc cf W X) {scope : Scope} {g : G} (hg : chkG N (relS scope sc) (ownC scope) g tg = true) (s : Shared) (H : Hp) (A : Addr) (cl : List (Str × Addr)) (fp : List Addr) : PG (X.blk s H scope (compEnvC scope cl A X.env) fp) tg (gR Γ.K g) := by
  have := g_ok (hx.blk s H scope cl A fp) g tg hg
  rw [← hx.K]
  exact this
theorem blk_at (hx : HX M N Γ C lm k sc cf W X) {scope : Scope} {P : Cx → Prop} (h : ∀ X', HX M N Γ C false k (relS scope sc) (ownC scope) noW X' → P X') (s : Shared) (H : Hp) (A : Addr) (cl : List (Str × Addr)) (fp : List Addr) : P (X.blk s H scope (compEnvC scope cl A X.env) fp) := h _ (hx.blk s H scope cl A fp)
theorem s_lc {e : E} {g : G} {it : I} {own : List Nat} {elt iter : Expr} {scope : Scope} (hx : HX M N Γ C lm k sc cf W X) (ho : ownOk N sc scope own g = true) (hn : noSet iter = true) (hg : chkG N (relS scope sc) (ownC scope) g tg = true) (hi : PI X tg iter (tI Γ W C it))
    (he : Blk M N Γ C k scope sc fun X' => PE X' elt (tE Γ noW C e)) : PE X (.ListComp elt [⟨tg, iter, [], 0⟩] scope pos) (tE Γ W C (.lc e g it own)) :=
  PE.imp (pe_lc hx.calm (by rw [hx.hN]; exact hx.nd) hi (ownOk_blk hx ho) (blk_g hx hg) (fun _ _ _ _ _ => pts_nil) (blk_at hx he) (fun x => noSet_fold hn _ x)) fun σ H Q q => by rw [ownP_map]; exact lc_go hx (ownOk_slots ho) q
theorem s_lcf {e c : E} {g : G} {it : I} {own : List Nat} {elt iter tst : Expr} {scope : Scope} (hx : HX M N Γ C lm k sc cf W X) (ho : ownOk N sc scope own g = true) (hn : noSet iter = true) (hg : chkG N (relS scope sc) (ownC scope) g tg = true) (hi : PI X tg iter (tI Γ W C it))
    (hc : Blk M N Γ C k scope sc fun X' => PT X' tst (tT Γ noW C c)) (he : Blk M N Γ C k scope sc fun X' => PE X' elt (tE Γ noW C e)) : PE X (.ListComp elt [⟨tg, iter, [tst], 0⟩] scope pos) (tE Γ W C (.lcf e g it c own)) :=
  PE.imp (pe_lc hx.calm (by rw [hx.hN]; exact hx.nd) hi (ownOk_blk hx ho) (blk_g hx hg) (fun s H A cl fp => pts_one (blk_at hx hc s H A cl fp)) (blk_at hx he) (fun x => noSet_fold hn _ x)) fun σ H Q q => by rw [ownP_map]; exact lcf_go hx (ownOk_slots ho) q
/-- name = [..] -/
def swapOk (N : List Str) (sc scope : Scope) (i : Nat) (y : Str) (py pos : Pos) : Bool := decide (N[i]? = some y) && (match sc.names.lookup y with | some .local => true | _ => false) && (match sc.kind with | .function => true | _ => false) && (py.line == pos.line) && !(scope.names.any fun (n, k) => n == y && (k == .local || k == .cell))
theorem swapOk_ok {scope : Scope} {i : Nat} {y : Str} {py pos : Pos} (hx : HX M N Γ C lm k sc cf W X) (h : swapOk N sc scope i y py pos = true) : X.N[i]? = some y ∧ X.env.scope.names.lookup y = some .local ∧ ∀ elt gs l, swapsWith (.ListComp elt gs scope pos) (some (.Name y py)) l X.env = pure true := by
  unfold swapOk at h
  simp only [Bool.and_eq_true, decide_eq_true_eq, Bool.not_eq_true'] at h
  obtain ⟨⟨⟨⟨h1, h2⟩, h3⟩, h4⟩, h5⟩ := h
  rw [hx.hN, hx.sc]
  have hl : sc.names.lookup y = some .local := by
    split at h2
    · assumption
    · cases h2
  have hk : sc.kind = .function := by
    split at h3
    · assumption
    · cases h3
  refine ⟨h1, hl, fun elt gs l => sw_true (by rw [hx.sc]; exact hk) (by rw [hx.sc]; exact hl) h4 h5⟩
theorem t_lc {e : E} {g : G} {it : I} {own : List Nat} {elt iter : Expr} {scope : Scope} {i : Nat} {y : Str} {py spos : Pos} (hx : HX M N Γ C lm k sc cf W X) (hy : swapOk N sc scope i y py pos = true) (ho : ownOk N sc scope own g = true) (hn : noSet iter = true) (hg : chkG N (relS scope sc) (ownC scope) g tg = true) (hi : PI X tg iter (tI Γ W C it))
    (he : Blk M N Γ C k scope sc fun X' => PE X' elt (tE Γ noW C e)) : PS X (.Assign [.Name y py] (.ListComp elt [⟨tg, iter, [], 0⟩] scope pos) spos) (tAsg (tE Γ W C (.lc e g it own)) (gName i)) :=
  let ⟨h1, h2, h3⟩ := swapOk_ok hx hy
  PS.imp (ps_setLc hx.calm (by rw [hx.hN]; exact hx.nd) h1 h2 (h3 _ _ _) hi (ownOk_blk hx ho) (blk_g hx hg) (fun _ _ _ _ _ => pts_nil) (blk_at hx he) (fun x => noSet_fold hn _ x)) fun D σ H q => by rw [ownP_map]; exact lc_go hx (ownOk_slots ho) q
theorem t_lcf {e c : E} {g : G} {it : I} {own : List Nat} {elt iter tst : Expr} {scope : Scope} {i : Nat} {y : Str} {py spos : Pos} (hx : HX M N Γ C lm k sc cf W X) (hy : swapOk N sc scope i y py pos = true) (ho : ownOk N sc scope own g = true) (hn : noSet iter = true) (hg : chkG N (relS scope sc) (ownC scope) g tg = true) (hi : PI X tg iter (tI Γ W C it))
    (hc : Blk M N Γ C k scope sc fun X' => PT X' tst (tT Γ noW C c)) (he : Blk M N Γ C k scope sc fun X' => PE X' elt (tE Γ noW C e)) : PS X (.Assign [.Name y py] (.ListComp elt [⟨tg, iter, [tst], 0⟩] scope pos) spos) (tAsg (tE Γ W C (.lcf e g it c own)) (gName i)) :=
  let ⟨h1, h2, h3⟩ := swapOk_ok hx hy
  PS.imp (ps_setLc hx.calm (by rw [hx.hN]; exact hx.nd) h1 h2 (h3 _ _ _) hi (ownOk_blk hx ho) (blk_g hx hg) (fun s H A cl fp => pts_one (blk_at hx hc s H A cl fp)) (blk_at hx he) (fun x => noSet_fold hn _ x)) fun D σ H q => by rw [ownP_map]; exact lcf_go hx (ownOk_slots ho) q
/-! ### methods -/
def few (es : List Expr) : Bool := Nat.blt es.length 29
theorem few_ok {pos : Pos} : ∀ {es : List Expr} {env : Env}, noStars es = true → (backTo pos (starEach es env)).all (fun x => !x.1) = true
  | [], _, _ => rfl
  | e :: es, env, h => by
    unfold noStars at h
    rw [List.all_cons, Bool.and_eq_true] at h
    rw [star1 h.1]
    have ih := few_ok (pos := pos) (es := es) (env := env) h.2
    unfold backTo at ih ⊢
    rw [List.map_cons, List.all_cons, ih]
    rfl
theorem meth_go {m : Me} {o : E} {es : L} {σ : St} {H : Hp} {Q : V → Hp → Prop} (hx : HX M N Γ C lm k sc cf W X) (q : tE Γ W C (.meth m o es) σ H Q) : tBM X.K (meT m) (rMe X.K m) (tE Γ W C o) (tL Γ W C es) σ H Q := by
  obtain ⟨μ, h, σa, rl, rs, o⟩ := q
  simp only [evE] at o
  refine ⟨μ, h, σa, rl, rs, (Out.bind (RA := RVh) o (.refl _ _)).imp fun x H1 ⟨μ1, h1, v, _, e1, r1, rv, o1⟩ => ?_⟩
  split at o1
  · rename_i c
    refine ⟨by rw [hx.K]; exact mOk_ty r1 rv c, μ1, h1, σa, r1, rs.mono e1.le, (Out.bind (RA := RVsh) o1 e1).imp fun ys H2 ⟨μ2, h2, vs, _, e2, r2, rvs, o2⟩ => ?_⟩
    rw [hx.K]
    exact meth_ok r2 (rv.mono e2.le) rvs (o2.shift (e1.trans e2))
  · exact o1.elim
theorem s_meth0 {m : Me} {o : E} {x : Expr} {apos : Pos} {w : Str} (hx : HX M N Γ C lm k sc cf W X) (hm : meOk m = true) (hw : w = meS m) (hb : baseOk x = true) (hl : (apos.endLine == pos.line) = true) (ho : PE X x (tE Γ W C o)) : PE X (.Call (.Attribute x w apos) [] [] pos) (tE Γ W C (.meth m o .nil)) := by
  subst hw
  obtain ⟨h1, h2, h3, h4⟩ := rMe_ok hx.room m hm
  refine PE.imp (pe_bm0 h1 h2 h3 h4 ho (base_ok hb _ _ _) hl) fun σ H Q q => ?_
  obtain ⟨μ, h, σa, rl, rs, o⟩ := meth_go hx q
  exact ⟨μ, h, σa, rl, rs, o.imp fun y H1 ⟨ty, q1⟩ => ⟨ty, by
    obtain ⟨μ2, h2, σ2, r2, rs2, o2⟩ := q1
    exact Out.here (x := []) o2 r2 .nil⟩⟩
theorem s_meth {m : Me} {o : E} {es : L} {x a : Expr} {as : List Expr} {apos : Pos} {w : Str} (hx : HX M N Γ C lm k sc cf W X) (hm : meOk m = true) (hw : w = meS m) (hb : baseOk x = true) (hl : (apos.endLine == pos.line) = true) (hs : noStars (a :: as) = true) (hf : few (a :: as) = true) (ho : PE X x (tE Γ W C o)) (ha : PA X (a :: as) (tL Γ W C es)) : PE X (.Call (.Attribute x w apos) (a :: as) [] pos) (tE Γ W C (.meth m o es)) := by
  subst hw
  obtain ⟨h1, h2, h3, h4⟩ := rMe_ok hx.room m hm
  have hs' : noStar a = true ∧ noStars as = true := by
    unfold noStars at hs; rw [List.all_cons, Bool.and_eq_true] at hs; exact hs
  refine PE.imp (pe_bm h1 h2 h3 h4 ho ha (base_ok hb _ _ _) ?_ hl (star1 hs'.1 _ _) (stars_any hs'.2 _ _)) fun σ H Q q => meth_go hx q
  rw [few_ok hs]
  unfold few at hf
  have := Nat.le_of_ble_eq_true hf
  simp [backToKw, keywordEach]
  simp at this
  omega
end
end AH

set_option Elab.async false
set_option linter.all false
set_option maxRecDepth 100000
set_option maxHeartbeats 4000000
/-! AH13: locks, what is walked of a dict, conversions. -/
namespace AH
open PySem PySem.Spec L2
section
variable {M : Nm} {N : List Str} {Γ : Gm} {C : Cf} {lm : Bool} {k : Nat} {sc : Scope} {cf : Str → Bool} {W : XK} {X : Cx} {pos : Pos} {μ μ0 μ1 : Mu} {h : AHp} {H H0 H1 : Hp} {tg : Expr}
/-! ### a dict that is locked -/
theorem Rel.lkd (r : Rel Γ μ h H) {v : AV} {x : V} {kvs : List (Key × AV)} (rv : RV μ v x) (q : lockedA h v = some kvs) : ∃ d o ws, x = .ref d ∧ H d = some (.frz o (.dK ws)) ∧ RKV μ kvs ws := by
  unfold lockedA at q
  split at q
  · rename_i n
    obtain ⟨a, hm, rfl⟩ := rv
    split at q
    · rename_i ks g
      cases q
      obtain ⟨b, hb, o, ws, q1, q2⟩ := r.obj _ _ g
      rw [hm] at hb; cases hb
      exact ⟨a, o, ws, rfl, q1, q2⟩
    · cases q
  · cases q
theorem keyV_rel (μ : Mu) (k : Key) : RV μ (keyV k) (kV k) := by cases k <;> rfl
theorem itr_keys {d : Addr} {o : Obj} {kvs : List (Key × AV)} {ws : List (Key × V)} (hd : H1 d = some (.frz o (.dK ws))) (r : RKV μ1 kvs ws) : ItR Γ μ1 H1 (.vs (kvs.map fun p => keyV p.1)) (Itk d o ws) := fun i μ h H e rl => by
  have hd' := e.frzs _ _ _ hd
  have hl := Pd.length r
  refine ⟨fun vs hi hit => ?_, fun hi hf => ?_⟩
  · simp only [It.len, List.length_map] at hi
    simp only [It.item, It.one, List.getElem?_map] at hit
    cases q : kvs[i]? with
    | none => rw [q] at hit; cases hit
    | some p =>
      rw [q] at hit
      cases hit
      obtain ⟨w, hw, e1, e2⟩ := Pd.get r q
      refine ⟨⟨hd', by omega⟩, fun x' H2 hy => ?_⟩
      obtain ⟨rfl, k, v, q2, rfl⟩ := hy
      rw [hw] at q2; cases q2
      refine Yl.one rl ?_
      show RV μ (keyV p.1) (kV k)
      rw [e1]
      exact keyV_rel _ _
  · subst hi
    simp only [It.len, List.length_map]
    exact ⟨hd', by omega⟩
theorem itr_vals {d : Addr} {o : Obj} {kvs : List (Key × AV)} {ws : List (Key × V)} (hd : H1 d = some (.frz o (.dK ws))) (r : RKV μ1 kvs ws) : ItR Γ μ1 H1 (.vs (kvs.map fun p => p.2)) (Itd d o ws) := fun i μ h H e rl => by
  have hd' := e.frzs _ _ _ hd
  have hl := Pd.length r
  refine ⟨fun vs hi hit => ?_, fun hi hf => ?_⟩
  · simp only [It.len, List.length_map] at hi
    simp only [It.item, It.one, List.getElem?_map] at hit
    cases q : kvs[i]? with
    | none => rw [q] at hit; cases hit
    | some p =>
      rw [q] at hit
      cases hit
      obtain ⟨w, hw, e1, e2⟩ := Pd.get r q
      refine ⟨⟨hd', by omega⟩, fun x' H2 hy => ?_⟩
      obtain ⟨rfl, k, q2⟩ := hy
      rw [hw] at q2; cases q2
      exact Yl.one rl (e2.mono e.le)
  · subst hi
    simp only [It.len, List.length_map]
    exact ⟨hd', by omega⟩
theorem itr_items {d : Addr} {o : Obj} {kvs : List (Key × AV)} {ws : List (Key × V)} (hd : H1 d = some (.frz o (.dK ws))) (r : RKV μ1 kvs ws) : ItR Γ μ1 H1 (.prs (kvs.map fun p => (keyV p.1, p.2))) (Iti d o ws) := fun i μ h H e rl => by
  have hd' := e.frzs _ _ _ hd
  have hl := Pd.length r
  refine ⟨fun vs hi hit => ?_, fun hi hf => ?_⟩
  · simp only [It.len, List.length_map] at hi
    simp only [It.item, It.one, List.getElem?_map] at hit
    cases q : kvs[i]? with
    | none => rw [q] at hit; cases hit
    | some p =>
      rw [q] at hit
      cases hit
      obtain ⟨w, hw, e1, e2⟩ := Pd.get r q
      refine ⟨⟨hd', by omega⟩, fun x' H2 hy => ?_⟩
      obtain ⟨T, k, v, q2, rfl, hT, rfl⟩ := hy
      rw [hw] at q2; cases q2
      refine Yl.pair rl hT ?_ (e2.mono e.le)
      show RV μ (keyV p.1) (kV k)
      rw [e1]
      exact keyV_rel _ _
  · subst hi
    simp only [It.len, List.length_map]
    exact ⟨hd', by omega⟩
theorem i_keys {e : E} {x : Expr} (hx : HX M N Γ C lm k sc cf W X) (he : PE X x (tE Γ W C e)) : PI X tg x (tI Γ W C (.keys e)) :=
  PI.imp (pi_keys he) fun σ H R ⟨μ, h, σa, rl, rs, o⟩ => ⟨μ, h, σa, rl, rs, (Out.bind (RA := RVh) o (.refl _ _)).imp fun y H1 ⟨μ1, h1, v, _, e1, r1, rv, o1⟩ => by
    cases q : lockedA h1 v with
    | none => rw [q] at o1; exact o1.elim
    | some kvs =>
      rw [q] at o1
      obtain ⟨d, o, ws, rfl, hd, r⟩ := r1.lkd rv q
      exact ⟨d, o, rfl, .inl ⟨ws, hd, o1 μ1 H1 _ e1 r1 (itr_keys hd r)⟩⟩⟩
theorem i_vals {e : E} {x : Expr} {apos : Pos} (hx : HX M N Γ C lm k sc cf W X) (hb : baseOk x = true) (hl : (apos.endLine == pos.line) = true) (he : PE X x (tE Γ W C e)) : PI X tg (.Call (.Attribute x "values" apos) [] [] pos) (tI Γ W C (.vals e)) :=
  PI.imp (pi_values he (base_ok hb _ _ _) hl) fun σ H R ⟨μ, h, σa, rl, rs, o⟩ => ⟨μ, h, σa, rl, rs, (Out.bind (RA := RVh) o (.refl _ _)).imp fun y H1 ⟨μ1, h1, v, _, e1, r1, rv, o1⟩ => by
    cases q : lockedA h1 v with
    | none => rw [q] at o1; exact o1.elim
    | some kvs =>
      rw [q] at o1
      obtain ⟨d, o, ws, rfl, hd, r⟩ := r1.lkd rv q
      exact ⟨d, o, ws, rfl, hd, o1 μ1 H1 _ e1 r1 (itr_vals hd r)⟩⟩
theorem i_items {e : E} {x : Expr} {apos tp : Pos} {es : List Expr} {kk : Nat} (hx : HX M N Γ C lm k sc cf W X) (hb : baseOk x = true) (hl : (apos.endLine == pos.line) = true) (he : PE X x (tE Γ W C e)) : PI X (.Tuple es kk tp) (.Call (.Attribute x "items" apos) [] [] pos) (tI Γ W C (.items e)) :=
  PI.imp (pi_items he (base_ok hb _ _ _) hl) fun σ H R ⟨μ, h, σa, rl, rs, o⟩ => ⟨μ, h, σa, rl, rs, (Out.bind (RA := RVh) o (.refl _ _)).imp fun y H1 ⟨μ1, h1, v, _, e1, r1, rv, o1⟩ => by
    cases q : lockedA h1 v with
    | none => rw [q] at o1; exact o1.elim
    | some kvs =>
      rw [q] at o1
      obtain ⟨d, o, ws, rfl, hd, r⟩ := r1.lkd rv q
      exact ⟨d, o, ws, rfl, hd, o1 μ1 H1 _ e1 r1 (itr_items hd r)⟩⟩
/-! ### locks -/
theorem lockA_ok {σa : Sl} {σ : St} {i n : Nat} {h1 : AHp} (rl : Rel Γ μ h H) (rs : RS μ σa σ) (q : lockA σa i h = some (n, h1)) : ∃ kvs d ws, μ n = some d ∧ h.get n = some (.dct kvs) ∧ H d = some (.dK ws) ∧ RKV μ kvs ws ∧ h1 = h.set n (.dctL kvs) ∧
    ∀ od, Rel Γ μ h1 (upd H d (.frz od (.dK ws))) := by
  unfold lockA at q
  split at q
  · rename_i a e
    split at q
    · rename_i kvs g
      cases q
      obtain ⟨x, e1, d, hm, rfl⟩ := rs.2 i _ e
      obtain ⟨b, hb, ws, q1, q2⟩ := rl.obj _ _ g
      rw [hm] at hb; cases hb
      exact ⟨kvs, d, ws, hm, g, q1, q2, rfl, fun od => rl.wr hm g (o' := .dctL kvs) ⟨od, ws, upd_same, q2⟩⟩
    · cases q
  · cases q
theorem unlock_ok {n : Nat} {d : Addr} {od : Obj} {ws : List (Key × V)} {h1 h2 : AHp} (hm : μ n = some d) (hd : H d = some (.dK ws)) (e : Ext μ (upd H d (.frz od (.dK ws))) μ1 H1) (r : Rel Γ μ1 h1 H1) (q : unlock n h1 = some h2) :
    H1 d = some (.frz od (.dK ws)) ∧ Ext μ H μ1 (upd H1 d (.dK ws)) ∧ Rel Γ μ1 h2 (upd H1 d (.dK ws)) := by
  have hf : H1 d = some (.frz od (.dK ws)) := e.frzs _ _ _ upd_same
  refine ⟨hf, e.unlock hm hd, ?_⟩
  unfold unlock at q
  split at q
  · rename_i kvs g
    cases q
    obtain ⟨b, hb, o, ws', q1, q2⟩ := r.obj _ _ g
    rw [e.le _ _ hm] at hb; cases hb
    rw [hf] at q1; cases q1
    exact r.wr (e.le _ _ hm) g (o' := .dct kvs) ⟨ws, upd_same, q2⟩
  · cases q
theorem Out.noexk {α β γ δ : Type} {r : Rs α} {f : α → AHp → Rs γ} {RA : Mu → Hp → α → β → Prop} {RB : Mu → Hp → γ → δ → Prop} {Q : δ → Hp → Prop} {W' : XK} (o : Out Γ W μ0 H0 (r.noex.bind f) RB Q) :
    Out Γ W' μ H r RA (fun x H1 => ∃ μ1 h1 v, r = .ok v h1 ∧ Ext μ H μ1 H1 ∧ Rel Γ μ1 h1 H1 ∧ RA μ1 H1 v x ∧ Out Γ W μ0 H0 (f v h1) RB Q) := by
  cases r with
  | ok v h1 => exact fun μ1 H1 x e rl ra => ⟨μ1, h1, v, rfl, e, rl, ra, o⟩
  | ex c fs h1 => exact o.elim
  | no => exact o
theorem s_lock {i : Nat} {e : E} {x : Expr} (he : PE X x (tE Γ W C e)) : PE X x (tE Γ W C (.lock i e)) :=
  PE.imp (pe_lock he) fun σ H Q ⟨μ, h, σa, rl, rs, o⟩ => by
    simp only [evE] at o
    split at o
    · rename_i n h1 q
      obtain ⟨kvs, d, ws, hm, hg, hd, r, rfl, rl2⟩ := lockA_ok rl rs q
      refine ⟨d, _, hd, True.intro, fun od => ⟨μ, _, σa, rl2 od, rs, (Out.noexk (RA := RVh) o).imp fun y H1 ⟨μ1, h1, v, _, e1, r1, rv, o1⟩ => ?_⟩⟩
      split at o1
      · rename_i h3 q2
        obtain ⟨f1, f2, f3⟩ := unlock_ok hm hd e1 r1 q2
        exact ⟨f1, o1 _ _ _ f2 f3 rv⟩
      · exact o1.elim
    · exact o.elim
/-! ### conversions -/
theorem lst_nm : nmOk ("list" : Str) = true := by decide +kernel
theorem tup_nm : nmOk ("tuple" : Str) = true := by decide +kernel
theorem dct_nm : nmOk ("dict" : Str) = true := by decide +kernel
theorem CallR.or {f : Value} {r r' : List V → Hp → VK → Prop} (a : CallR X f r) (b : CallR X f r') : CallR X f fun xs H Q => r xs H Q ∨ r' xs H Q := fun pins s σ H xs us Q I rx h => h.elim (a pins s σ H xs us Q I rx) (b pins s σ H xs us Q I rx)
theorem SqT.ofT {K : PySem.W.Frag} {a : Addr} {xs : List V} (e : H a = some (.tup xs)) : SqT K H a xs := SqT.of e
theorem one_go {f : AHp → AV → Rs AV} {e : E} {r : List V → Hp → VK → Prop} {σ : St} {H : Hp} {Q : V → Hp → Prop} (hf : ∀ {μ h H v x Q}, Rel Γ μ h H → RV μ v x → Out Γ W μ H (f h v) RVh Q → r [x] H Q) {μ : Mu} {h : AHp} {σa : Sl} (rl : Rel Γ μ h H) (rs : RS μ σa σ)
    (o : Out Γ W μ H ((evE C e σa h).bind fun v h1 => f h1 v) RVh Q) : tCB r (tCons (tE Γ W C e) tNil) σ H Q :=
  ⟨μ, h, σa, rl, rs, (Out.bind (RA := RVh) o (.refl _ _)).imp fun y H1 ⟨μ1, h1, v, _, e1, r1, rv, o1⟩ => hf r1 rv (o1.shift e1)⟩
theorem keys_rel {μ : Mu} : ∀ {kvs : List (Key × AV)} {ws : List (Key × V)}, RKV μ kvs ws → RVs μ (kvs.map fun p => keyV p.1) (ws.map fun kv => kV kv.1)
  | _, _, .nil => .nil
  | p :: r, q :: s, .cons ⟨e1, e2⟩ t => .cons (by show RV μ (keyV p.1) (kV q.1); rw [e1]; exact keyV_rel _ _) (keys_rel t)
theorem scr_rel {μ : Mu} : ∀ ns : List Int, RVs μ (ns.map .int) (ns.map V.int)
  | [] => .nil
  | n :: r => .cons rfl (scr_rel r)
theorem s_lstE {e : E} {x : Expr} {p : Pos} (hx : HX M N Γ C lm k sc cf W X) (hg : glb sc "list" = true) (hs : noStar x = true) (he : PE X x (tE Γ W C e)) : PE X (.Call (.Name "list" p) [x] [] pos) (tE Γ W C (.lstE e)) :=
  PE.imp (pe_callTy (CallR.or call_list_of (call_list_dK hx.calm)) (hx.glb hg) (hx.bl _ (by decide +kernel)) (by decide +kernel) (pa_cons he pa_nil (star1 hs _ _)) (nm_name lst_nm) (nm_debug lst_nm) (star1 hs _ _) (stars_any rfl _ _)) fun σ H Q ⟨μ, h, σa, rl, rs, o⟩ =>
    one_go (f := lstA) (fun {μ h H v x Q} r rv q => by
      unfold lstA at q
      split at q
      · split at q
        · rename_i ys g
          obtain ⟨a, ws, rfl, hm, q2, q3⟩ := r.lst rv g
          exact .inl ⟨a, ws, rfl, .inl (by rw [hx.K]; exact SqL.of q2), fun l hl => q.new r hl ⟨ws, upd_same, q3.mono r.addLe⟩⟩
        · rename_i ys g
          obtain ⟨a, ws, rfl, hm, q2, q3⟩ := r.tup rv g
          exact .inl ⟨a, ws, rfl, .inr (by rw [hx.K]; exact SqT.of q2), fun l hl => q.new r hl ⟨ws, upd_same, q3.mono r.addLe⟩⟩
        · rename_i ys g
          obtain ⟨a, rfl, hm, q2⟩ := r.scr rv g
          exact .inl ⟨a, _, rfl, .inl (by rw [hx.K]; exact .inl q2), fun l hl => q.new r hl ⟨_, upd_same, scr_rel _⟩⟩
        · rename_i ys g
          obtain ⟨a, ws, rfl, hm, q2, q3⟩ := r.dct rv g
          exact .inr ⟨a, ws, rfl, q2, fun l hl => q.new r hl ⟨_, upd_same, keys_rel (q3.mono r.addLe)⟩⟩
        · exact q.elim
      · exact q.elim) rl rs o
theorem s_tupE {e : E} {x : Expr} {p : Pos} (hx : HX M N Γ C lm k sc cf W X) (hg : glb sc "tuple" = true) (hs : noStar x = true) (he : PE X x (tE Γ W C e)) : PE X (.Call (.Name "tuple" p) [x] [] pos) (tE Γ W C (.tupE e)) :=
  PE.imp (pe_callTy call_tuple_of (hx.glb hg) (hx.bl _ (by decide +kernel)) (by decide +kernel) (pa_cons he pa_nil (star1 hs _ _)) (nm_name tup_nm) (nm_debug tup_nm) (star1 hs _ _) (stars_any rfl _ _)) fun σ H Q ⟨μ, h, σa, rl, rs, o⟩ =>
    one_go (f := tupA) (fun {μ h H v x Q} r rv q => by
      unfold tupA at q
      split at q
      · split at q
        · rename_i ys g
          obtain ⟨a, ws, rfl, hm, q2, q3⟩ := r.lst rv g
          exact ⟨a, ws, rfl, .inl ⟨by rw [hx.K]; exact SqL.of q2, fun l hl => q.new r hl ⟨ws, upd_same, q3.mono r.addLe⟩⟩⟩
        · rename_i ys g
          obtain ⟨a, ws, rfl, hm, q2, q3⟩ := r.tup rv g
          exact ⟨a, ws, rfl, .inr ⟨by rw [hx.K]; exact SqT.of q2, q.here r ⟨a, hm, rfl⟩⟩⟩
        · exact q.elim
      · exact q.elim) rl rs o
theorem merge_ok {μ : Mu} : ∀ {more : List (Key × AV)} {wm : List (Key × V)} {kvs : List (Key × AV)} {ws : List (Key × V)}, RKV μ more wm → RKV μ kvs ws → RKV μ (mergeA kvs more) (mergeK ws wm)
  | _, _, _, _, .nil, r => r
  | p :: more, q :: wm, kvs, ws, .cons ⟨e1, e2⟩ t, r => by
    show RKV μ (mergeA (putA p.1 p.2 kvs) more) (mergeK (putK ws q.1 q.2) wm)
    refine merge_ok t ?_
    rw [e1]
    exact putA_ok _ e2 r
theorem pairsAt_ok (r : Rel Γ μ h H) : ∀ {xs : List AV} {ws : List V} {kvs : List (Key × AV)}, RVs μ xs ws → pairsAt h xs = some kvs → ∃ ps us, ws = ps.map V.ref ∧ Paired (fun p kv => SqT Γ.K H p [kV kv.1, kv.2]) ps us ∧ RKV μ kvs us
  | _, _, _, .nil, q => by cases q; exact ⟨[], [], rfl, .nil, .nil⟩
  | v :: xs, w :: ws, kvs, .cons rv t, q => by
    unfold pairsAt at q
    split at q
    · rename_i p ps q1 q2
      cases q
      obtain ⟨as, us, rfl, h1, h2⟩ := pairsAt_ok r t q2
      unfold pairAt at q1
      split at q1
      · split at q1
        · rename_i a b g
          obtain ⟨ad, zs, rfl, hm, q3, q4⟩ := r.tup rv g
          cases q4 with
          | cons ra t4 =>
            cases t4 with
            | cons rb t5 =>
              cases t5
              cases q5 : keyOf a with
              | none => rw [q5] at q1; cases q1
              | some kk =>
                rw [q5] at q1
                cases q1
                have := keyOf_ok q5 ra
                subst this
                exact ⟨ad :: as, (kk, _) :: us, rfl, .cons (SqT.of q3) h1, .cons ⟨rfl, rb⟩ h2⟩
        · cases q1
      · cases q1
    · cases q
theorem s_dctE {e : E} {x : Expr} {p : Pos} (hx : HX M N Γ C lm k sc cf W X) (hg : glb sc "dict" = true) (hs : noStar x = true) (he : PE X x (tE Γ W C e)) : PE X (.Call (.Name "dict" p) [x] [] pos) (tE Γ W C (.dctE e)) :=
  PE.imp (pe_callTy (CallR.or (call_dictP hx.calm) call_dictD) (hx.glb hg) (hx.bl _ (by decide +kernel)) (by decide +kernel) (pa_cons he pa_nil (star1 hs _ _)) (nm_name dct_nm) (nm_debug dct_nm) (star1 hs _ _) (stars_any rfl _ _)) fun σ H Q ⟨μ, h, σa, rl, rs, o⟩ =>
    one_go (f := dctA) (fun {μ h H v x Q} r rv q => by
      unfold dctA at q
      split at q
      · split at q
        · rename_i ys g
          obtain ⟨a, ws, rfl, hm, q2, q3⟩ := r.lst rv g
          split at q
          · rename_i kvs q4
            split at q
            · obtain ⟨ps, us, rfl, h1, h2⟩ := pairsAt_ok r q3 q4
              exact .inl ⟨a, ps, us, rfl, by rw [hx.K]; exact SqL.of q2, by rw [hx.K]; exact h1, fun l hl => q.new r hl ⟨_, upd_same, (merge_ok h2 .nil).mono r.addLe⟩⟩
            · exact q.elim
          · exact q.elim
        · rename_i ys g
          obtain ⟨a, ws, rfl, hm, q2, q3⟩ := r.dct rv g
          exact .inr ⟨a, ws, rfl, .inl q2, fun l hl => q.new r hl ⟨ws, upd_same, q3.mono r.addLe⟩⟩
        · exact q.elim
      · exact q.elim) rl rs o
theorem rgV_rel {μ : Mu} : ∀ (n : Nat) (a : Int), RVs μ (rngL a n) ((List.range n).map fun i => V.int (a + (i : Nat)))
  | 0, _ => .nil
  | n + 1, a => by
    rw [List.range_succ_eq_map, List.map_cons, List.map_map]
    refine .cons (by show V.int _ = V.int _; simp) ?_
    have := rgV_rel (μ := μ) n (a + 1)
    have e : ((fun i : Nat => V.int (a + (i : Nat))) ∘ Nat.succ) = fun i : Nat => V.int (a + 1 + (i : Nat)) := by
      funext i
      show V.int _ = V.int _
      congr 1
      show a + ((i + 1 : Nat) : Int) = _
      push_cast
      omega
    rw [e]
    exact this
theorem s_lstR1 {a : E} {x : Expr} {p p2 p3 : Pos} (hx : HX M N Γ C lm k sc cf W X) (hg : glb sc "list" = true) (hg2 : glb sc "range" = true) (hs : noStar x = true) (ha : PE X x (tE Γ W C a)) : PE X (.Call (.Name "list" p) [.Call (.Name "range" p2) [x] [] p3] [] pos) (tE Γ W C (.lstR1 a)) :=
  PE.imp (pe_listRg hx.calm (hx.glb hg) (hx.bl _ (by decide +kernel)) (prg_1 (hx.glb hg2) (hx.bl _ (by decide +kernel)) ha (star1 hs _ _))) fun σ H Q ⟨μ, h, σa, rl, rs, o⟩ => ⟨μ, h, σa, rl, rs, (Out.bind (RA := RVh) o (.refl _ _)).imp fun y H1 ⟨μ1, h1, v, _, e1, r1, rv, o1⟩ => by
    cases v with
    | int j =>
      obtain rfl := rv
      have o1 : Out Γ W μ H (if rngOk j && isz j.toNat then Rs.ok (.ref h1.n) (h1.add (.lst (rngL 0 j.toNat))) else .no) RVh Q := o1
      split at o1
      · rename_i c
        rw [Bool.and_eq_true] at c
        obtain ⟨c1, c2, c3, c4⟩ := rngOk_of c.1
        have c5 := isz_le c.2
        rw [sz_eq] at c5
        refine ⟨j, rfl, ⟨by omega, by omega, c1, c2, by omega⟩, fun q hq => (o1.shift e1).new r1 hq ⟨_, upd_same, ?_⟩⟩
        unfold rgV
        have : (j - 0).toNat = j.toNat := by omega
        rw [this]
        exact rgV_rel _ _
      · exact o1.elim
    | _ => exact o1.elim⟩
theorem s_lstR2 {a b : E} {x y : Expr} {p p2 p3 : Pos} (hx : HX M N Γ C lm k sc cf W X) (hg : glb sc "list" = true) (hg2 : glb sc "range" = true) (hs : noStar x = true) (hs2 : noStar y = true) (ha : PE X x (tE Γ W C a)) (hb : PE X y (tE Γ W C b)) : PE X (.Call (.Name "list" p) [.Call (.Name "range" p2) [x, y] [] p3] [] pos) (tE Γ W C (.lstR2 a b)) :=
  PE.imp (pe_listRg hx.calm (hx.glb hg) (hx.bl _ (by decide +kernel)) (prg_2 (hx.glb hg2) (hx.bl _ (by decide +kernel)) ha hb (star1 hs _ _) (star1 hs2 _ _) (by rw [star1 hs2]; rfl))) fun σ H Q ⟨μ, h, σa, rl, rs, o⟩ => ⟨μ, h, σa, rl, rs, (Out.bind (RA := RVh) o (.refl _ _)).imp fun y H1 ⟨μ1, h1, v, _, e1, r1, rv, o1⟩ =>
    ⟨μ1, h1, σa, r1, rs.mono e1.le, (Out.bind (RA := RVh) o1 e1).imp fun z H2 ⟨μ2, h2, w, _, e2, r2, rw_, o2⟩ => by
    cases v with
    | int i =>
      obtain rfl := rv
      cases w with
      | int j =>
        obtain rfl := rw_
        have o2 : Out Γ W μ H (if rngOk i && rngOk j && isz (j - i).toNat then Rs.ok (.ref h2.n) (h2.add (.lst (rngL i (j - i).toNat))) else .no) RVh Q := o2
        split at o2
        · rename_i c
          rw [Bool.and_eq_true, Bool.and_eq_true] at c
          obtain ⟨c1, c2, c3, c4⟩ := rngOk_of c.1.1
          obtain ⟨d1, d2, d3, d4⟩ := rngOk_of c.1.2
          have c5 := isz_le c.2
          rw [sz_eq] at c5
          exact ⟨i, j, rfl, rfl, ⟨c1, c2, d1, d2, by omega⟩, fun q hq => (o2.shift (e1.trans e2)).new r2 hq ⟨_, upd_same, rgV_rel _ _⟩⟩
        · exact o2.elim
      | _ => exact o2.elim
    | _ => exact o2.elim⟩⟩
/-! ### list(d.items()) -/
theorem addPairs_ok : ∀ {kvs : List (Key × AV)} {ws : List (Key × V)} {ts : List Addr} {μ : Mu} {h : AHp}, Rel Γ μ h H → RKV μ kvs ws → Paired (fun (t : Addr) (q : Key × V) => H t = some (.tup [kV q.1, q.2])) ts ws → ts.Nodup → (∀ t ∈ ts, ∀ i, μ i ≠ some t) →
    ∃ μ', Rel Γ μ' (addPairs h kvs) H ∧ (∀ i a, μ i = some a → μ' i = some a) ∧ (∀ i a, μ' i = some a → μ i = some a ∨ a ∈ ts) ∧ (∀ (j : Nat) t, ts[j]? = some t → μ' (h.n + j) = some t) ∧ (addPairs h kvs).n = h.n + kvs.length
  | [], _, _, μ, h, r, .nil, .nil, _, _ => ⟨μ, r, fun _ _ q => q, fun _ _ q => .inl q, fun j t q => by simp at q, rfl⟩
  | p :: kvs, w :: ws, t :: ts, μ, h, r, .cons ⟨e1, e2⟩ rk, .cons ht pt, nd, nt => by
    rw [List.nodup_cons] at nd
    have hD : H t ≠ none := by rw [ht]; simp
    have r1 := r.adopt (D := t) (o := .tup [keyV p.1, p.2]) hD (nt t (by simp)) ⟨_, ht, .cons (by rw [e1]; exact keyV_rel _ _) (.cons (e2.mono r.addLe) .nil)⟩
    obtain ⟨μ', a1, a2, a3, a4, a5⟩ := addPairs_ok r1 (RKV.mono r.addLe rk) pt nd.2 (fun u hu i q => by
      unfold Mu.add at q
      split at q
      · cases q; exact nd.1 hu
      · exact nt u (by simp [hu]) i q)
    refine ⟨μ', a1, fun i a q => a2 _ _ (r.addLe _ _ q), fun i a q => ?_, fun j u q => ?_, ?_⟩
    · rcases a3 i a q with z | z
      · unfold Mu.add at z
        split at z
        · cases z; exact .inr (by simp)
        · exact .inl z
      · exact .inr (by simp [z])
    · cases j with
      | zero => simp at q; subst q; exact a2 _ _ Mu.add_same
      | succ j =>
        have := a4 j u (by simpa using q)
        have e : (h.add (.tup [keyV p.1, p.2])).n + j = h.n + (j + 1) := by show h.n + 1 + j = _; omega
        rw [e] at this; exact this
    · show (addPairs (h.add (.tup [keyV p.1, p.2])) kvs).n = _
      rw [a5]
      show h.n + 1 + kvs.length = h.n + (kvs.length + 1)
      omega
theorem refs_rel {μ : Mu} : ∀ (ts : List Addr) (n : Nat), (∀ (j : Nat) t, ts[j]? = some t → μ (n + j) = some t) → RVs μ ((List.range ts.length).map fun i => .ref (n + i)) (ts.map V.ref)
  | [], _, _ => .nil
  | t :: ts, n, h => by
    rw [List.length_cons, List.range_succ_eq_map, List.map_cons, List.map_map]
    refine .cons ⟨t, h 0 t (by simp), rfl⟩ ?_
    have := refs_rel ts (n + 1) (fun j u q => by have := h (j + 1) u (by simpa using q); rw [show n + 1 + j = n + (j + 1) by omega]; exact this)
    have e : ((fun i => AV.ref (n + i)) ∘ Nat.succ) = fun i => AV.ref (n + 1 + i) := by
      funext i
      show AV.ref _ = AV.ref _
      congr 1
      show n + (i + 1) = _
      omega
    rw [e]
    exact this
theorem ts_nodup : ∀ {kvs : List (Key × AV)} {ws : List (Key × V)} {ts : List Addr} {μ : Mu}, RKV μ kvs ws → Paired (fun (t : Addr) (q : Key × V) => H t = some (.tup [kV q.1, q.2])) ts ws → nodupK kvs = true → ts.Nodup
  | [], _, _, _, .nil, .nil, _ => List.nodup_nil
  | p :: kvs, w :: ws, t :: ts, μ, .cons ⟨e1, e2⟩ rk, .cons ht pt, q => by
    unfold nodupK at q
    rw [Bool.and_eq_true] at q
    refine List.nodup_cons.mpr ⟨fun hm => ?_, ts_nodup rk pt q.2⟩
    obtain ⟨j, hj⟩ := List.mem_iff_getElem?.mp hm
    obtain ⟨w', q1, q2⟩ := Pd.get pt hj
    rw [ht] at q2
    have ek : w.1 = w'.1 := by
      have := Option.some.inj q2
      injection this with this
      injection this with a b
      exact kV_inj a
    obtain ⟨p', q3, q4, _⟩ := Pd.get' rk q1
    have q1' := q.1
    rw [Bool.not_eq_true'] at q1'
    have : (kvs.any fun p' => keyEq p'.1 p.1) = true := List.any_eq_true.mpr ⟨p', List.mem_of_getElem? q3, by rw [keyEq_ok, e1, ek, q4]; simp⟩
    rw [this] at q1'
    cases q1'
theorem s_lstIt {e : E} {x : Expr} {p ap cp : Pos} (hx : HX M N Γ C lm k sc cf W X) (hg : glb sc "list" = true) (hb : baseOk x = true) (hl : (ap.endLine == cp.line) = true) (he : PE X x (tE Γ W C e)) : PE X (.Call (.Name "list" p) [.Call (.Attribute x "items" ap) [] [] cp] [] pos) (tE Γ W C (.lstIt e)) :=
  PE.imp (LiI.pe_listItems hx.calm he (hx.glb hg) (hx.bl _ (by decide +kernel)) (by decide +kernel) (base_ok hb _ _ _) hl) fun σ H Q ⟨μ, h, σa, rl, rs, o⟩ => ⟨μ, h, σa, rl, rs, (Out.bind (RA := RVh) o (.refl _ _)).imp fun y H1 ⟨μ1, h1, v, _, e1, r1, rv, o1⟩ => by
    unfold itemsA at o1
    split at o1
    · split at o1
      · rename_i kvs g
        split at o1
        · rename_i nk
          obtain ⟨a, ws, rfl, hm, q2, q3⟩ := r1.dct rv g
          refine ⟨a, ws, rfl, q2, fun H' p ts hk hp hts hpt hlst hpr => ?_⟩
          have rl' : Rel Γ μ1 h1 H' := ⟨fun i o q => let ⟨a, b, c⟩ := r1.obj i o q; let ⟨u, hu, _⟩ := c.some; ⟨a, b, c.mono (fun _ _ q => q) (by rw [hu]; exact hk _ _ hu)⟩, r1.inj, r1.dom, fun i a q => (by
            obtain ⟨u, z, nt⟩ := r1.trk i a q
            exact ⟨u, hk _ _ z, nt⟩), fun x hx => (by
            obtain ⟨ps, h1, h2, h3⟩ := r1.tab x hx
            exact ⟨ps, hk _ _ h1, h2, fun pos cv hc => let ⟨c, e1, e2⟩ := h3 pos cv hc; ⟨c, e1, hk _ _ e2⟩⟩)⟩
          have nt : ∀ t ∈ ts, ∀ i, μ1 i ≠ some t := fun t ht i q => r1.ne i t q (hts t ht)
          obtain ⟨μ', a1, a2, a3, a4, a5⟩ := addPairs_ok rl' q3 hpr (ts_nodup q3 hpr nk) nt
          have np : ∀ i, μ' i ≠ some p := fun i q => by
            rcases a3 i p q with z | z
            · exact r1.ne i p z hp
            · exact hpt z
          have hn : ts.length = kvs.length := by rw [Pd.length hpr, Pd.length q3]
          have ra := a1.adopt (D := p) (o := .lst ((List.range kvs.length).map fun i => .ref (h1.n + i))) (by rw [hlst]; simp) np ⟨_, hlst, by rw [← hn]; exact (refs_rel ts h1.n a4).mono a1.addLe⟩
          refine o1 _ H' (.ref p) (e1.trans ⟨fun i a q => a1.addLe _ _ (a2 _ _ q), fun i a q => ?_, fun b o q _ _ => hk _ _ q, fun b xs q => hk _ _ q, fun b o u q => hk _ _ q⟩) ra ⟨p, by rw [← a5]; exact Mu.add_same, rfl⟩
          unfold Mu.add at q
          split at q
          · cases q; exact .inr (Fr.none hp)
          · rcases a3 i a q with z | z
            · exact .inl ⟨i, z⟩
            · exact .inr (Fr.none (hts a z))
        · exact o1.elim
      · exact o1.elim
    · exact o1.elim⟩
end
end AH

set_option Elab.async false
set_option linter.all false
set_option maxRecDepth 100000
set_option maxHeartbeats 4000000
/-! AH14: dict displays, keyword calls. -/
namespace AH
open PySem PySem.Spec L2
section
variable {M : Nm} {N : List Str} {Γ : Gm} {C : Cf} {lm : Bool} {k : Nat} {sc : Scope} {cf : Str → Bool} {W : XK} {X : Cx} {pos : Pos} {μ μ0 μ1 : Mu} {h : AHp} {H H0 H1 : Hp} {tg : Expr}
def trsOf (Γ : Gm) (W : XK) (C : Cf) : L → List (TE × TE)
  | .cons e (.cons e2 r) => (tE Γ W C e, tE Γ W C e2) :: trsOf Γ W C r
  | _ => []
def L.even : L → Bool
  | .nil => true
  | .cons _ (.cons _ r) => r.even
  | _ => false
/-- pairs that are values of a run -/
def RVV (μ : Mu) : List AV → List (V × V) → Prop
  | [], [] => True
  | k :: v :: r, p :: s => RV μ k p.1 ∧ RV μ v p.2 ∧ RVV μ r s
  | _, _ => False
theorem RVV.mono (e : ∀ i a, μ i = some a → μ1 i = some a) : ∀ {vs : List AV} {ps : List (V × V)}, RVV μ vs ps → RVV μ1 vs ps
  | [], [], _ => True.intro
  | k :: v :: r, p :: s, ⟨a, b, c⟩ => ⟨a.mono e, b.mono e, RVV.mono e c⟩
  | [], _ :: _, h => h.elim
  | [_], _, h => by cases h
  | _ :: _ :: _, [], h => h.elim
theorem pairs_read : ∀ {l : L} {σ : St} {σa : Sl} {H : Hp} {μ : Mu} {h : AHp} {Q : List (V × V) → Hp → Prop}, l.even = true → Rel Γ μ h H → RS μ σa σ →
    Out Γ W μ H (evL C l σa h) (fun μ _ vs ps => RVV μ vs ps) Q → tPairs (trsOf Γ W C l) σ H Q
  | .nil, σ, σa, H, μ, h, Q, _, rl, rs, o => Out.here (x := []) o rl True.intro
  | .cons e (.cons e2 r), σ, σa, H, μ, h, Q, hv, rl, rs, o => by
    simp only [evL] at o
    refine ⟨μ, h, σa, rl, rs, (Out.bind (RA := RVh) o (.refl _ _)).imp fun x H1 ⟨μ1, h1, v, _, e1, r1, rv, o1⟩ => ?_⟩
    rw [Rs.bind_assoc] at o1
    refine ⟨μ1, h1, σa, r1, rs.mono e1.le, (Out.bind (RA := RVh) o1 e1).imp fun y H2 ⟨μ2, h2, w, _, e2, r2, rw_, o2⟩ => ?_⟩
    rw [Rs.bind_assoc] at o2
    have e12 := e1.trans e2
    refine pairs_read (l := r) hv r2 (rs.mono e12.le) ((Out.bind (RA := fun μ _ vs ps => RVV μ vs ps) o2 e12).imp fun ps H3 ⟨μ3, h3, vs, _, e3, r3, rvs, o3⟩ => ?_)
    exact (Out.shift o3 (e12.trans e3)).here r3 ⟨(rv.mono e2.le).mono e3.le, rw_.mono e3.le, rvs⟩
  | .cons e .nil, _, _, _, _, _, _, hv, _, _, _ => by cases hv
  | .cons e (.star _ _), _, _, _, _, _, _, hv, _, _, _ => by cases hv
  | .star _ _, _, _, _, _, _, _, hv, _, _, _ => by cases hv
theorem pairUp_ok : ∀ {vs : List AV} {ps : List (V × V)} {kvs : List (Key × AV)}, RVV μ vs ps → pairUp vs = some kvs → ∃ us : List (Key × V), ps = us.map (fun kv => (kV kv.1, kv.2)) ∧ RKV μ kvs us
  | [], [], kvs, _, q => by cases q; exact ⟨[], rfl, .nil⟩
  | k :: v :: r, p :: s, kvs, ⟨a, b, c⟩, q => by
    unfold pairUp at q
    split at q
    · rename_i kk ps' q1 q2
      cases q
      obtain ⟨us, rfl, ru⟩ := pairUp_ok c q2
      have := keyOf_ok q1 a
      refine ⟨(kk, p.2) :: us, ?_, .cons ⟨rfl, b⟩ ru⟩
      rw [List.map_cons]
      congr 1
      obtain ⟨p1, p2⟩ := p
      simp only at this
      rw [this]
    · cases q
  | [], _ :: _, _, h, _ => h.elim
  | [_], _, _, h, _ => by cases h
  | _ :: _ :: _, [], _, h, _ => h.elim
theorem s_dct0 : PE X (.Dict [] [] pos) (tE Γ W C (.dct .nil)) :=
  PE.imp pe_dnewK fun σ H Q ⟨μ, h, σa, rl, rs, o⟩ => fun p hp => Out.new (show Out Γ W μ H (.ok (.ref h.n) (h.add (.dct []))) RVh Q from o) rl hp ⟨_, upd_same, .nil⟩
theorem s_dct {l : L} {keys : List (Option Expr)} {values : List Expr} (hv : l.even = true) (hp : PPs X pos keys values (trsOf Γ W C l)) (hall : keys.all (·.isSome) = true) (hl : keys.length = values.length) (h0 : keys ≠ []) (h15 : keys.length ≤ 15) : PE X (.Dict keys values pos) (tE Γ W C (.dct l)) :=
  PE.imp (pe_disp hp hall hl h0 h15) fun σ H Q ⟨μ, h, σa, rl, rs, o⟩ => fun p hp => by
    obtain ⟨rl2, e0⟩ := rl.other (u := .dK []) hp
    have o : Out Γ W μ H ((evL C l σa h).bind fun vs h1 => match pairUp vs with | some ps => if Nat.ble ps.length 15 then Rs.ok (.ref h1.n) (h1.add (.dct (mergeA [] ps))) else .no | none => .no) RVh Q := o
    refine pairs_read hv rl2 rs ((Out.bind (RA := fun μ _ vs ps => RVV μ vs ps) o e0).imp fun ps H1 ⟨μ1, h1, vs, _, e1, r1, rvs, o1⟩ => ?_)
    have np : ∀ i, μ i ≠ some p := fun i q => rl.ne i p q hp
    have hD : H1 p = some (.dK []) := e1.fr p _ upd_same (fun _ z => by cases z) np
    have np1 : ∀ i, μ1 i ≠ some p := e1.nim np upd_same (fun _ z => by cases z)
    refine ⟨hD, ?_⟩
    cases q : pairUp vs with
    | none => rw [q] at o1; exact o1.elim
    | some kvs =>
      rw [q] at o1
      have o1 : Out Γ W μ H (if Nat.ble kvs.length 15 then Rs.ok (.ref h1.n) (h1.add (.dct (mergeA [] kvs))) else .no) RVh Q := o1
      obtain ⟨us, rfl, ru⟩ := pairUp_ok rvs q
      split at o1
      · rename_i c
        have c' := Nat.le_of_ble_eq_true c
        refine ⟨us, rfl, by rw [← Pd.length ru]; exact c', ?_⟩
        have r2 := r1.outer (u := .dK (mergeK [] us)) np1 hD (fun _ z => by cases z) (fun c q z => by unfold LamX.CodeO at z; cases z)
        have e2 := (e0.trans e1).outer (u := .dK (mergeK [] us)) hp
        refine o1 (μ1.add h1.n p) _ (.ref p) (e2.adopt (r1.fresh (Nat.le_refl _)) hp) (r2.adopt (by rw [upd_same]; simp) np1 ⟨_, upd_same, (merge_ok ru .nil).mono r1.addLe⟩) ⟨p, Mu.add_same, rfl⟩
      · exact o1.elim
end
end AH

set_option Elab.async false
set_option linter.all false
set_option maxRecDepth 100000
set_option maxHeartbeats 4000000
/-! AH15: statements. -/
namespace AH
open PySem PySem.Spec L2
/-- what a statement's result wants of what follows -/
def OutS (Γ : Gm) (W : XK) (μ : Mu) (H : Hp) (r : SRs) (D : Ends) : Prop := match r with
  | .nx σa h1 => ∀ μ1 H1 σ1, Ext μ H μ1 H1 → Rel Γ μ1 h1 H1 → RS μ1 σa σ1 → D.nx σ1 H1
  | .rt v h1 => ∀ μ1 H1 x, Ext μ H μ1 H1 → Rel Γ μ1 h1 H1 → RV μ1 v x → D.rt x H1
  | .ex c fs h1 => ∀ μ1 H1 d ws, Ext μ H μ1 H1 → Rel Γ μ1 h1 H1 → H1 d = some (.xd ws) → RF Γ μ1 fs ws → W (.ref (Γ.nmC c)) (some d) H1
  | .no => False
section
variable {Γ : Gm} {W : XK} {μ μ0 μ1 : Mu} {h h1 : AHp} {H H0 H1 : Hp} {α β : Type} {D : Ends}
theorem OutS.shift {r : SRs} (o : OutS Γ W μ H r D) (e : Ext μ H μ1 H1) : OutS Γ W μ1 H1 r D := by
  cases r with
  | nx σ h1 => exact fun μ2 H2 x e2 r1 rv => o μ2 H2 x (e.trans e2) r1 rv
  | rt v h1 => exact fun μ2 H2 x e2 r1 rv => o μ2 H2 x (e.trans e2) r1 rv
  | ex c fs h1 => exact fun μ2 H2 d ws e2 r1 => o μ2 H2 d ws (e.trans e2) r1
  | no => exact o
theorem OutS.bind {r : Rs α} {f : α → AHp → SRs} {RA : Mu → Hp → α → β → Prop} (o : OutS Γ W μ0 H0 (r.sbind f) D) (e0 : Ext μ0 H0 μ H) :
    Out Γ W μ H r RA (fun x H1 => ∃ μ1 h1 v, r = .ok v h1 ∧ Ext μ H μ1 H1 ∧ Rel Γ μ1 h1 H1 ∧ RA μ1 H1 v x ∧ OutS Γ W μ0 H0 (f v h1) D) := by
  cases r with
  | ok v h1 => exact fun μ1 H1 x e rl ra => ⟨μ1, h1, v, rfl, e, rl, ra, o⟩
  | ex c fs h1 => exact fun μ1 H1 d ws e r1 => o μ1 H1 d ws (e0.trans e) r1
  | no => exact o
theorem OutS.seq {r : SRs} {f : Sl → AHp → SRs} (o : OutS Γ W μ0 H0 (r.seq f) D) (e0 : Ext μ0 H0 μ H) :
    OutS Γ W μ H r { D with nx := fun σ1 H1 => ∃ μ1 h1 σa, Ext μ H μ1 H1 ∧ Rel Γ μ1 h1 H1 ∧ RS μ1 σa σ1 ∧ OutS Γ W μ0 H0 (f σa h1) D } := by
  cases r with
  | nx σ h1 => exact fun μ1 H1 x e rl ra => ⟨μ1, h1, σ, e, rl, ra, o⟩
  | rt v h1 => exact fun μ1 H1 x e rl ra => o μ1 H1 x (e0.trans e) rl ra
  | ex c fs h1 => exact fun μ1 H1 d ws e r1 => o μ1 H1 d ws (e0.trans e) r1
  | no => exact o
theorem OutS.imp {r : SRs} {D' : Ends} (o : OutS Γ W μ H r D) (h1 : ∀ σ H, D.nx σ H → D'.nx σ H) (h2 : ∀ v H, D.rt v H → D'.rt v H) : OutS Γ W μ H r D' := by
  cases r with
  | nx σ h1' => exact fun μ1 H1 x e rl ra => h1 _ _ (o μ1 H1 x e rl ra)
  | rt v h1' => exact fun μ1 H1 x e rl ra => h2 _ _ (o μ1 H1 x e rl ra)
  | ex c fs h1 => exact o
  | no => exact o
theorem OutS.here {σa : Sl} {σ : St} (o : OutS Γ W μ H (.nx σa h) D) (r : Rel Γ μ h H) (rs : RS μ σa σ) : D.nx σ H := o μ H σ (.refl _ _) r rs
end
def tSt (Γ : Gm) (W : XK) (C : Cf) (s : S) : TS := fun D σ H => ∃ μ h σa, Rel Γ μ h H ∧ RS μ σa σ ∧ OutS Γ W μ H (evS C s σa h) D
def tB (Γ : Gm) (W : XK) (C : Cf) (b : B) : TS := fun D σ H => ∃ μ h σa, Rel Γ μ h H ∧ RS μ σa σ ∧ OutS Γ W μ H (evB C b σa h) D
section
variable {M : Nm} {N : List Str} {Γ : Gm} {C : Cf} {lm : Bool} {k : Nat} {sc : Scope} {cf : Str → Bool} {W : XK} {X : Cx} {pos : Pos} {μ μ0 μ1 : Mu} {h : AHp} {H H0 H1 : Hp} {tg : Expr}
theorem b_nil : PSs X [] (tB Γ W C .nil) := PSs.imp pss_nil fun D σ H ⟨μ, h, σa, rl, rs, o⟩ => OutS.here o rl rs
theorem b_cons {s : S} {b : B} {st : Stmt} {sts : List Stmt} (hs : PS X st (tSt Γ W C s)) (hb : PSs X sts (tB Γ W C b)) : PSs X (st :: sts) (tB Γ W C (.cons s b)) :=
  PSs.imp (pss_cons hs hb) fun D σ H ⟨μ, h, σa, rl, rs, o⟩ => ⟨μ, h, σa, rl, rs, (OutS.seq o (.refl _ _)).imp (fun σ1 H1 ⟨μ1, h1, σa1, e1, r1, rs1, o1⟩ => ⟨μ1, h1, σa1, r1, rs1, o1.shift e1⟩) fun _ _ q => q⟩
theorem t_pass : PS X (.Pass pos) (tSt Γ W C .pass) := PS.imp ps_pass fun D σ H ⟨μ, h, σa, rl, rs, o⟩ => OutS.here o rl rs
theorem t_retN : PS X (.Return none pos) (tSt Γ W C .retN) := PS.imp ps_retN fun D σ H ⟨μ, h, σa, rl, rs, o⟩ => (show OutS Γ W μ H (.rt .non h) D from o) μ H .non (.refl _ _) rl rfl
theorem t_ret {e : E} {x : Expr} (he : PE X x (tE Γ W C e)) : PS X (.Return (some x) pos) (tSt Γ W C (.ret e)) :=
  PS.imp (ps_ret he) fun D σ H ⟨μ, h, σa, rl, rs, o⟩ => ⟨μ, h, σa, rl, rs, (OutS.bind (RA := RVh) o (.refl _ _)).imp fun x H1 ⟨μ1, h1, v, _, e1, r1, rv, o1⟩ => (show OutS Γ W μ H (.rt v h1) D from o1) μ1 H1 x e1 r1 rv⟩
theorem t_ex {e : E} {x : Expr} (hn : noComp x = true) (he : PE X x (tE Γ W C e)) : PS X (.Expr x pos) (tSt Γ W C (.ex e)) :=
  PS.imp (ps_expr he (swaps_no hn _ _ _)) fun D σ H ⟨μ, h, σa, rl, rs, o⟩ => ⟨μ, h, σa, rl, rs, (OutS.bind (RA := RVh) o (.refl _ _)).imp fun x H1 ⟨μ1, h1, v, _, e1, r1, rv, o1⟩ => (show OutS Γ W μ H (.nx σa h1) D from o1) μ1 H1 σ e1 r1 (rs.mono e1.le)⟩
theorem t_ite {c : E} {a b : B} {x : Expr} {as bs : List Stmt} (hc : PT X x (tT Γ W C c)) (ha : PSs X as (tB Γ W C a)) (hb : PSs X bs (tB Γ W C b)) : PS X (.If x as bs pos) (tSt Γ W C (.ite c a b)) :=
  PS.imp (ps_if hc ha hb) fun D σ H ⟨μ, h, σa, rl, rs, o⟩ => ⟨μ, h, σa, rl, rs, (OutS.bind (RA := RB) o (.refl _ _)).imp fun t H1 ⟨μ1, h1, t', _, e1, r1, rt, o1⟩ => by
    obtain rfl := rt
    cases t' with
    | true => exact ⟨μ1, h1, σa, r1, rs.mono e1.le, o1.shift e1⟩
    | false => exact ⟨μ1, h1, σa, r1, rs.mono e1.le, o1.shift e1⟩⟩
/-! ### assignments -/
theorem asg_go {e : E} {i : Nat} {D : Ends} {σ : St} {H : Hp} (q : tSt Γ W C (.asg i e) D σ H) : tAsg (tE Γ W C e) (gName i) D σ H := by
  obtain ⟨μ, h, σa, rl, rs, o⟩ := q
  exact ⟨μ, h, σa, rl, rs, (OutS.bind (RA := RVh) o (.refl _ _)).imp fun x H1 ⟨μ1, h1, v, _, e1, r1, rv, o1⟩ => (show OutS Γ W μ H (.nx (σa.set i (some v)) h1) D from o1) μ1 H1 _ e1 r1 ((rs.mono e1.le).set rv)⟩
theorem lcl_ok (hx : HX M N Γ C lm k sc cf W X) {x : Str} (h : lcl sc cf x = true) : L2.Loc X.env.scope x ∧ (X.fn x = true ∨ X.env.scope.names.lookup x = some .local) := by
  rw [hx.sc]
  unfold lcl at h
  unfold L2.Loc
  split at h
  · rename_i e; exact ⟨.inl e, .inr e⟩
  · rename_i e; exact ⟨.inr e, .inl (hx.fnc _ h)⟩
  · cases h
/-- no stores are swapped with a comprehension's release -/
def noSwap (sc : Scope) (x : Str) (e : Expr) : Bool := noComp e || (match sc.names.lookup x with | some .cell => true | _ => false)
theorem noSwap_ok (hx : HX M N Γ C lm k sc cf W X) {x : Str} {e : Expr} (h : noSwap sc x e = true) (p : Pos) (l : Nat) : swapsWith e (some (.Name x p)) l X.env = pure false := by
  unfold noSwap at h
  rw [Bool.or_eq_true] at h
  rcases h with h | h
  · exact swaps_no h _ _ _
  · have hk : X.env.scope.names.lookup x = some .cell := by
      rw [hx.sc]
      split at h
      · assumption
      · cases h
    have ky : X.env.kindOf x = some .cell := hk
    unfold swapsWith
    split
    · simp only [ky]
      have : (NameKind.cell == NameKind.local) = false := rfl
      rw [show (some NameKind.cell == some NameKind.local) = false from rfl, Bool.and_false, Bool.false_and, Bool.false_and]
    · rfl
theorem t_asg {e : E} {i : Nat} {x : Expr} {y : Str} {p : Pos} (hx : HX M N Γ C lm k sc cf W X) (hi : N[i]? = some y) (hl : lcl sc cf y = true) (hn : noSwap sc y x = true) (he : PE X x (tE Γ W C e)) : PS X (.Assign [.Name y p] x pos) (tSt Γ W C (.asg i e)) :=
  let ⟨h1, h2⟩ := lcl_ok hx hl
  PS.imp (ps_set (by rw [hx.hN]; exact hx.nd) (by rw [hx.hN]; exact hi) h1 he (noSwap_ok hx hn _ _) h2) fun D σ H q => asg_go q
theorem sole_tup {ts : List Expr} {k2 p} (e : Expr) (l : Nat) (env : Env) : swapsWithSole [.Tuple ts k2 p] e l env = pure false := by
  show swapsWith e (some (.Tuple ts k2 p)) l env = pure false
  unfold swapsWith
  split
  · rfl
  · rfl
theorem sole_sub {o i : Expr} {p} (e : Expr) (l : Nat) (env : Env) : swapsWithSole [.Subscript o i p] e l env = pure false := by
  show swapsWith e (some (.Subscript o i p)) l env = pure false
  unfold swapsWith
  split
  · rfl
  · rfl
/-- the names that swapped stores store, if it is known -/
def swP (sc : Scope) (ts vs : List Expr) : Option (Option (List Str)) :=
  if (!(ts.length == 2 || ts.length == 3) || vs.length != ts.length) then some none else
  if (vs.any fun | .Starred .. => true | _ => false) then some none else
  let line := (ts.head?.map (·.pos.line)).getD 0
  let names := ts.filterMap fun
    | .Name id pos => if sc.names.lookup id == some .local && pos.line == line then some id else none
    | _ => none
  if names.length != ts.length || names.eraseDups.length != names.length then some none else
  if vs.all (foldedForSure 8) then some none else
  if vs.all (constantsAlone 8) then none else some (some names)
def fnK (sc : Scope) : Bool := match sc.kind with | .function => true | _ => false
theorem fnK_ok {sc : Scope} (h : fnK sc = true) : sc.kind = .function := by
  unfold fnK at h
  split at h
  · assumption
  · cases h
theorem swP_ok (hx : HX M N Γ C lm k sc cf W X) (hk : fnK sc = true) {ts vs : List Expr} {r : Option (List Str)} (h : swP sc ts vs = some r) {k1 k2 p1 p2} : swappedStores [.Tuple ts k1 p1] (.Tuple vs k2 p2) X.env = pure r := by
  have hb : X.env.blockKind = .function := by
    have := fnK_ok hk
    unfold Env.blockKind
    rw [hx.sc, this]; rfl
  have hko : ∀ id, X.env.kindOf id = sc.names.lookup id := fun id => by rw [← hx.sc]; rfl
  unfold swappedStores
  simp only [hb, hko]
  rw [show (ScopeKind.function != ScopeKind.function) = false from rfl, Bool.or_false]
  unfold swP at h
  dsimp only at h
  split at h
  · rename_i c; cases h; exact if_pos c
  · rename_i c
    refine (if_neg c).trans ?_
    split at h
    · rename_i c; cases h; exact if_pos c
    · rename_i c
      refine (if_neg c).trans ?_
      split at h
      · rename_i c; cases h; exact if_pos c
      · rename_i c
        refine (if_neg c).trans ?_
        split at h
        · rename_i c; cases h; exact if_pos c
        · rename_i c
          refine (if_neg c).trans ?_
          split at h
          · cases h
          · rename_i c
            cases h
            exact if_neg c
/-- no swapped stores: any other value, or a tuple that is stored plainly -/
def plainV (sc : Scope) (ts : List Expr) : Expr → Bool
  | .Tuple vs _ _ => fnK sc && (match swP sc ts vs with | some none => true | _ => false)
  | _ => true
theorem plainV_ok (hx : HX M N Γ C lm k sc cf W X) {ts : List Expr} {e : Expr} (h : plainV sc ts e = true) {k1 p1} : swappedStores [.Tuple ts k1 p1] e X.env = pure none := by
  cases e with
  | Tuple vs k2 p2 =>
    unfold plainV at h
    rw [Bool.and_eq_true] at h
    refine swP_ok hx h.1 ?_
    split at h
    · assumption
    · exact absurd h.2 (by simp)
  | _ => rfl
theorem t_asgT {gs : Gs} {e : E} {x : Expr} {ts : List Expr} {k1 : Nat} {p1 : Pos} (hx : HX M N Γ C lm k sc cf W X) (hg : chkG N sc cf (.tp gs) (.Tuple ts k1 p1) = true) (hp : plainV sc ts x = true) (he : PE X x (tE Γ W C e)) : PS X (.Assign [.Tuple ts k1 p1] x pos) (tSt Γ W C (.asgT gs e)) :=
  PS.imp (ps_asg he (g_ok hx (.tp gs) _ hg) (sole_tup _ _ _) (plainV_ok hx hp)) fun D σ H ⟨μ, h, σa, rl, rs, o⟩ => ⟨μ, h, σa, rl, rs, (OutS.bind (RA := RVh) o (.refl _ _)).imp fun x H1 ⟨μ1, h1, v, _, e1, r1, rv, o1⟩ => by
    cases q : bindG h1 (.tp gs) v σa with
    | none => rw [q] at o1; exact o1.elim
    | some σ2 =>
      rw [q] at o1
      rw [hx.K]
      exact bndG_ok r1 (G.tp gs).slots (.tp gs) v x σ σa σ2 _ (fun i hi => hi) rv (rs.mono e1.le) q fun σ' rs' _ => (show OutS Γ W μ H (.nx σ2 h1) D from o1) μ1 H1 σ' e1 r1 rs'⟩
theorem loc_ok (hx : HX M N Γ C lm k sc cf W X) {x : Str} (h : (match sc.names.lookup x with | some .local => true | _ => false) = true) : X.env.scope.names.lookup x = some .local := by
  rw [hx.sc]
  split at h
  · assumption
  · cases h
def isLoc (sc : Scope) (x : Str) : Bool := match sc.names.lookup x with
  | some .local => true
  | _ => false
theorem isLoc_ok (hx : HX M N Γ C lm k sc cf W X) {x : Str} (h : isLoc sc x = true) : X.env.scope.names.lookup x = some .local := loc_ok hx h
def swIs (sc : Scope) (ts vs : List Expr) (ns : List Str) : Bool := fnK sc && (match swP sc ts vs with | some (some ms) => ms == ns | _ => false)
theorem swIs_ok (hx : HX M N Γ C lm k sc cf W X) {ts vs : List Expr} {ns : List Str} (h : swIs sc ts vs ns = true) {k1 k2 p1 p2} : swappedStores [.Tuple ts k1 p1] (.Tuple vs k2 p2) X.env = pure (some ns) := by
  unfold swIs at h
  rw [Bool.and_eq_true] at h
  refine swP_ok hx h.1 ?_
  split at h
  · rename_i ms e
    rw [e, eq_of_beq h.2]
  · exact absurd h.2 (by simp)
theorem t_asgP2 {i j : Nat} {es : L} {x y : Str} {a b : Expr} {px py pt pt2 : Pos} {kt k2 : Nat} (hx : HX M N Γ C lm k sc cf W X) (hi : N[i]? = some x) (hj : N[j]? = some y) (hij : i ≠ j) (lx : isLoc sc x = true) (ly : isLoc sc y = true)
    (hw : swIs sc [.Name x px, .Name y py] [a, b] [x, y] = true) (ha : PA X [a, b] (tL Γ W C es)) : PS X (.Assign [.Tuple [.Name x px, .Name y py] kt pt] (.Tuple [a, b] k2 pt2) pos) (tSt Γ W C (.asgP [i, j] es)) :=
  PS.imp (ps_par hx.calm (by rw [hx.hN]; exact hx.nd) (by rw [hx.hN]; exact hi) (by rw [hx.hN]; exact hj) hij (isLoc_ok hx lx) (isLoc_ok hx ly) ha (swIs_ok hx hw) (sole_tup _ _ _)) fun D σ H ⟨μ, h, σa, rl, rs, o⟩ => ⟨μ, h, σa, rl, rs, (OutS.bind (RA := RVsh) o (.refl _ _)).imp fun xs H1 ⟨μ1, h1, vs, _, e1, r1, rv, o1⟩ => by
    split at o1
    · rename_i hl
      obtain ⟨v, w, rfl⟩ : ∃ v w, vs = [v, w] := by
        match vs, hl with
        | [v, w], _ => exact ⟨v, w, rfl⟩
      obtain ⟨y, z, rfl, ry, rz⟩ := RVs.two rv
      exact ⟨y, z, rfl, (show OutS Γ W μ H (.nx ((σa.set i (some v)).set j (some w)) h1) D from o1) μ1 H1 _ e1 r1 (((rs.mono e1.le).set ry).set rz)⟩
    · exact o1.elim⟩
theorem t_asgP3 {i j l : Nat} {es : L} {x y z : Str} {a b c : Expr} {px py pz pt pt2 : Pos} {kt k2 : Nat} (hx : HX M N Γ C lm k sc cf W X) (hi : N[i]? = some x) (hj : N[j]? = some y) (hl : N[l]? = some z) (hij : i ≠ j) (hil : i ≠ l) (hjl : j ≠ l) (lx : isLoc sc x = true) (ly : isLoc sc y = true) (lz : isLoc sc z = true)
    (hw : swIs sc [.Name x px, .Name y py, .Name z pz] [a, b, c] [x, y, z] = true) (ha : PA X [a, b, c] (tL Γ W C es)) : PS X (.Assign [.Tuple [.Name x px, .Name y py, .Name z pz] kt pt] (.Tuple [a, b, c] k2 pt2) pos) (tSt Γ W C (.asgP [i, j, l] es)) :=
  PS.imp (ps_par3 hx.calm (by rw [hx.hN]; exact hx.nd) (by rw [hx.hN]; exact hi) (by rw [hx.hN]; exact hj) (by rw [hx.hN]; exact hl) hij hil hjl (isLoc_ok hx lx) (isLoc_ok hx ly) (isLoc_ok hx lz) ha (swIs_ok hx hw) (sole_tup _ _ _)) fun D σ H ⟨μ, h, σa, rl, rs, o⟩ => ⟨μ, h, σa, rl, rs, (OutS.bind (RA := RVsh) o (.refl _ _)).imp fun xs H1 ⟨μ1, h1, vs, _, e1, r1, rv, o1⟩ => by
    split at o1
    · rename_i hl
      obtain ⟨u, v, w, rfl⟩ : ∃ u v w, vs = [u, v, w] := by
        match vs, hl with
        | [u, v, w], _ => exact ⟨u, v, w, rfl⟩
      cases rv with
      | cons ra t =>
        cases t with
        | cons rb t =>
          cases t with
          | cons rc t =>
            cases t
            exact ⟨_, _, _, rfl, (show OutS Γ W μ H (.nx (((σa.set i (some u)).set j (some v)).set l (some w)) h1) D from o1) μ1 H1 _ e1 r1 ((((rs.mono e1.le).set ra).set rb).set rc)⟩
    · exact o1.elim⟩
theorem t_setix {o i e : E} {a b x : Expr} {p1 : Pos} (hx : HX M N Γ C lm k sc cf W X) (hn : noSlice b = true) (ho : PE X a (tE Γ W C o)) (hi : PE X b (tE Γ W C i)) (he : PE X x (tE Γ W C e)) : PS X (.Assign [.Subscript a b p1] x pos) (tSt Γ W C (.setix o i e)) :=
  PS.imp (ps_asg he (pg_sub ho hi (rSetA_ok hx.room) (fun v => by cases b <;> first | rfl | cases hn)) (sole_sub _ _ _) (by rfl)) fun D σ H ⟨μ, h, σa, rl, rs, o⟩ => ⟨μ, h, σa, rl, rs, (OutS.bind (RA := RVh) o (.refl _ _)).imp fun x H1 ⟨μ1, h1, v, _, e1, r1, rv, o1⟩ =>
    ⟨μ1, h1, σa, r1, rs.mono e1.le, (OutS.bind (RA := RVh) o1 e1).imp fun y H2 ⟨μ2, h2, w, _, e2, r2, rw_, o2⟩ =>
    ⟨μ2, h2, σa, r2, (rs.mono e1.le).mono e2.le, (OutS.bind (RA := RVh) o2 (e1.trans e2)).imp fun z H3 ⟨μ3, h3, u, _, e3, r3, ru, o3⟩ => by
      cases q : setIxA h3 w u v with
      | none => rw [q] at o3; exact o3.elim
      | some h4 =>
        rw [q] at o3
        have e12 := e1.trans e2
        have e23 := e2.trans e3
        exact set_ok r3 (rw_.mono e3.le) ru (rv.mono e23.le) q fun H4 e4 r4 => (show OutS Γ W μ H (.nx σa h4) D from o3) μ3 H4 σ ((e12.trans e3).trans e4) r4 (rs.mono (e12.trans e3).le)⟩⟩⟩
/-! ### op= -/
def rAug : BOp → TIp
  | .add => ipI fun i j => i + j
  | .sub => ipI fun i j => i - j
  | _ => fun _ _ _ _ => False
theorem rAug_ok (op : BOp) : PIp X (opOf op) (rAug op) := by
  cases op with
  | add => exact ip_add
  | sub => exact ip_sub
  | _ => exact fun _ _ _ _ _ _ _ _ _ _ _ _ h => h.elim
theorem aug_ok {op : BOp} {v w : AV} {x y : V} {Q : V → Hp → Prop} (r : Rel Γ μ h H) (rv : RV μ v x) (rw_ : RV μ w y) (o : Out Γ W μ H (augA op h v w) RVh Q) : rAug op x y H Q := by
  unfold augA at o
  split at o
  · obtain rfl := rv; obtain rfl := rw_; exact ⟨_, _, rfl, rfl, o.here r rfl⟩
  · obtain rfl := rv; obtain rfl := rw_; exact ⟨_, _, rfl, rfl, o.here r rfl⟩
  · exact o.elim
theorem OutS.toOut {α β : Type} {r : Rs α} {f : α → AHp → SRs} {D : Ends} {R : Mu → Hp → α → β → Prop} (o : OutS Γ W μ0 H0 (r.sbind f) D) (e0 : Ext μ0 H0 μ H) : Out Γ W μ H r R fun x H1 => ∃ μ1 h1 v, r = .ok v h1 ∧ Ext μ H μ1 H1 ∧ Rel Γ μ1 h1 H1 ∧ R μ1 H1 v x ∧ OutS Γ W μ0 H0 (f v h1) D := OutS.bind o e0
theorem t_augN {i : Nat} {op : BOp} {e : E} {x : Expr} {y : Str} {p : Pos} (hx : HX M N Γ C lm k sc cf W X) (hi : N[i]? = some y) (hl : lcl sc cf y = true) (he : PE X x (tE Γ W C e)) : PS X (.AugAssign (.Name y p) (opOf op) x pos) (tSt Γ W C (.augN i op e)) :=
  let ⟨h1, h2⟩ := lcl_ok hx hl
  PS.imp (ps_aug (by rw [hx.hN]; exact hx.nd) (by rw [hx.hN]; exact hi) h1 he (rAug_ok op) h2) fun D σ H ⟨μ, h, σa, rl, rs, o⟩ => by
    simp only [evS] at o
    split at o
    · rename_i v ev
      obtain ⟨z, ez, rz⟩ := rs.2 i v ev
      refine ⟨z, ez, μ, h, σa, rl, rs, (OutS.bind (RA := RVh) o (.refl _ _)).imp fun y H1 ⟨μ1, h1, w, _, e1, r1, rw_, o1⟩ => ?_⟩
      refine aug_ok r1 (rz.mono e1.le) rw_ ((OutS.bind (RA := RVh) o1 e1).imp fun u H2 ⟨μ2, h2, t, _, e2, r2, rt, o2⟩ => ?_)
      exact (show OutS Γ W μ H (.nx (σa.set i (some t)) h2) D from o2) μ2 H2 _ (e1.trans e2) r2 ((rs.mono (e1.trans e2).le).set rt)
    · exact o.elim
def rGetM (K : PySem.W.Frag) : V → V → Hp → VK → Prop := fun x y H Q => rIxL K x y H Q ∨ rIxDg x y H Q
theorem get_list : PGet X (rIxL X.K) := by
  intro pins s σ H x y v u Q I rx ry h
  obtain ⟨p, xs, i, z, rfl, rfl, hq, he, q⟩ := h
  cases rx
  obtain ⟨t, rfl⟩ := ry
  obtain ⟨its, r, pl, hz⟩ := I.list hq
  obtain ⟨j, h1, h2, h3, h4, h5⟩ := atI_get he
  obtain ⟨w, ew, rw'⟩ := r.get h2
  have hl := r.length
  have hn := line63
  have fin : EP X pins σ Q w s := ⟨z, H, I, rw', q⟩
  by_cases h0 : 0 ≤ i
  · have hj : i.toNat = j := by
      rw [seqIndex_of h0 h5] at h1
      exact Option.some.inj h1
    exact wpAny_getItem_list pl.isList h0 (by omega) (by rw [hj]; simpa using ew) fin
  · have hj : (i + (its.toArray.size : Int)).toNat = j := by
      rw [seqIndex_neg (by omega) h4] at h1
      rw [List.size_toArray, ← hl]
      exact Option.some.inj h1
    exact wpAny_getItem_list_neg pl.isList (by omega) (by rw [List.size_toArray] <;> omega) (by omega) (by rw [hj]; simpa using ew) fin
theorem rGetM_ok {k : Nat} (hr : Room k X.A) : PGet X (rGetM X.K) := by
  intro pins s σ H x y v u Q I rx ry h
  rcases h with h | ⟨a, z, rfl, g, q⟩
  · exact get_list pins s σ H x y v u Q I rx ry h
  · cases (show v = Value.ref a from rx)
    exact d_getItem (by have := hr.un; omega) I g ry fun w' s3 I3 rw' => ⟨z, H, I3, rw', q⟩
theorem ixM_ok (r : Rel Γ μ h H) {v w : AV} {x y : V} {Q : V → Hp → Prop} (rv : RV μ v x) (rw : RV μ w y) (q : Out Γ W μ H (ixM h v w) RVh Q) : rGetM Γ.K x y H Q := by
  unfold ixM at q
  split at q
  · split at q
    · rename_i xs g
      obtain ⟨a, vs, rfl, hm, q2, q3⟩ := r.lst rv g
      split at q
      · obtain rfl := rw
        split at q
        · rename_i z e
          obtain ⟨x1, e1, r1⟩ := atI_ok q3 e
          exact .inl ⟨a, vs, _, x1, rfl, rfl, SqL.of q2, e1, q.here r r1⟩
        · exact q.elim
      · exact q.elim
    · rename_i kvs g
      obtain ⟨a, ws, rfl, hm, q2, q3⟩ := r.dct rv g
      split at q
      · rename_i k ek
        split at q
        · rename_i z e
          obtain ⟨x1, e1, r1⟩ := (valA_ok k q3).1 z e
          exact .inr ⟨a, x1, rfl, .inl ⟨ws, k, .inl q2, keyOf_ok ek rw, e1.symm⟩, q.here r r1⟩
        · exact q.elim
      · exact q.elim
    · exact q.elim
  · exact q.elim
theorem t_augIx {o i e : E} {op : BOp} {a b x : Expr} {p1 : Pos} (hx : HX M N Γ C lm k sc cf W X) (hn : noSlice b = true) (ho : PE X a (tE Γ W C o)) (hi : PE X b (tE Γ W C i)) (he : PE X x (tE Γ W C e)) : PS X (.AugAssign (.Subscript a b p1) (opOf op) x pos) (tSt Γ W C (.augIx o i op e)) :=
  PS.imp (ps_augS ho hi (rGetM_ok hx.room) he (rAug_ok op) (rSetA_ok hx.room) (fun ov iv new => by cases b <;> first | rfl | cases hn)) fun D σ H ⟨μ, h, σa, rl, rs, o⟩ => ⟨μ, h, σa, rl, rs, (OutS.bind (RA := RVh) o (.refl _ _)).imp fun x1 H1 ⟨μ1, h1, v1, _, e1, r1, rv1, o1⟩ =>
    ⟨μ1, h1, σa, r1, rs.mono e1.le, (OutS.bind (RA := RVh) o1 e1).imp fun x2 H2 ⟨μ2, h2, v2, _, e2, r2, rv2, o2⟩ => by
    rw [hx.K]
    have e12 := e1.trans e2
    refine ixM_ok r2 (rv1.mono e2.le) rv2 ((OutS.bind (RA := RVh) o2 e12).imp fun x3 H3 ⟨μ3, h3, v3, _, e3, r3, rv3, o3⟩ => ?_)
    have e13 := e12.trans e3
    refine ⟨μ3, h3, σa, r3, rs.mono e13.le, (OutS.bind (RA := RVh) o3 e13).imp fun x4 H4 ⟨μ4, h4, v4, _, e4, r4, rv4, o4⟩ => ?_⟩
    have e14 := e13.trans e4
    refine aug_ok r4 (rv3.mono e4.le) rv4 ((OutS.bind (RA := RVh) o4 e14).imp fun x5 H5 ⟨μ5, h5, v5, _, e5, r5, rv5, o5⟩ => ?_)
    have e15 := e14.trans e5
    cases q : setIxA h5 v1 v2 v5 with
    | none => rw [q] at o5; exact o5.elim
    | some h6 =>
      rw [q] at o5
      have e25 := (e2.trans e3).trans (e4.trans e5)
      have e35 := e3.trans (e4.trans e5)
      exact set_ok r5 (rv1.mono e25.le) (rv2.mono e35.le) rv5 q fun H6 e6 r6 => (show OutS Γ W μ H (.nx σa h6) D from o5) μ5 H6 σ (e15.trans e6) r6 (rs.mono e15.le)⟩⟩
/-! ### loops -/
theorem t_whl {c : E} {b : B} {x : Expr} {bs : List Stmt} (hx : HX M N Γ C lm k sc cf W X) (hc : PT X x (tT Γ W C c)) (hb : PSs X bs (tB Γ W C b)) : PS X (.While x bs [] pos) (tSt Γ W C (.whl c b)) :=
  PS.imp (ps_while hx.ps hc hb) fun D σ H ⟨μ, h, σa, rl, rs, o⟩ => by
    refine ⟨fun m σ1 H1 => ∃ μ1 h1 σa1, Ext μ H μ1 H1 ∧ Rel Γ μ1 h1 H1 ∧ RS μ1 σa1 σ1 ∧ OutS Γ W μ H (whlGo (fun σ1 h1 => truthR (evE C c σ1 h1)) (fun σ1 h1 => evB C b σ1 h1) m σa1 h1) D, ⟨C.F, μ, h, σa, .refl _ _, rl, rs, o⟩, ?_⟩
    rintro m σ1 H1 ⟨μ1, h1, σa1, e1, r1, rs1, o1⟩
    cases m with
    | zero => exact o1.elim
    | succ m =>
      have o1 : OutS Γ W μ H ((truthR (evE C c σa1 h1)).sbind fun t h2 => if t then (evB C b σa1 h2).seq fun σ2 h3 => whlGo (fun σ1 h1 => truthR (evE C c σ1 h1)) (fun σ1 h1 => evB C b σ1 h1) m σ2 h3 else .nx σa1 h2) D := o1
      refine ⟨μ1, h1, σa1, r1, rs1, (OutS.bind (RA := RB) o1 e1).imp fun t H2 ⟨μ2, h2, t', _, e2, r2, rt, o2⟩ => ?_⟩
      obtain rfl := rt
      have e12 := e1.trans e2
      cases t' with
      | false =>
        rw [if_neg (by simp)]
        exact (show OutS Γ W μ H (.nx σa1 h2) D from o2) μ2 H2 σ1 e12 r2 (rs1.mono e2.le)
      | true =>
        rw [if_pos rfl]
        refine ⟨fun σ3 H3 => ∃ μ3 h3 σa3, Ext μ H μ3 H3 ∧ Rel Γ μ3 h3 H3 ∧ RS μ3 σa3 σ3 ∧ OutS Γ W μ H (whlGo (fun σ1 h1 => truthR (evE C c σ1 h1)) (fun σ1 h1 => evB C b σ1 h1) m σa3 h3) D, fun σ' H' q => ⟨m, Nat.lt_succ_self m, q⟩, μ2, h2, σa1, r2, rs1.mono e2.le, (OutS.seq o2 e12).imp (fun σ3 H3 ⟨μ3, h3, σa3, e3, r3, rs3, o3⟩ => ⟨μ3, h3, σa3, e12.trans e3, r3, rs3, o3⟩) fun _ _ q => q⟩
theorem t_for {g : G} {it : I} {b : B} {iter : Expr} {bs : List Stmt} (hx : HX M N Γ C lm k sc cf W X) (hg : chkG N sc cf g tg = true) (hn : noSet iter = true) (hi : PI X tg iter (tI Γ W C it)) (hb : PSs X bs (tB Γ W C b)) : PS X (.For tg iter bs [] pos) (tSt Γ W C (.forS g it b)) :=
  PS.imp (ps_for hx.ps hx.calm hi (g_ok hx g tg hg) hb (fun x => noSet_fold hn _ x)) fun D σ H ⟨μ, h, σa, rl, rs, o⟩ => by
    let turn := fun vs σ1 h2 => match bindIt h2 g vs σ1 with
      | some σ2 => evB C b σ2 h2
      | none => SRs.no
    refine ⟨μ, h, σa, rl, rs, (OutS.bind (RA := ItR Γ) o (.refl _ _)).imp fun J H1 ⟨μ1, h1, t, _, e1, r1, hJ, o1⟩ => ?_⟩
    refine ⟨fun i m σ2 H2 => ∃ μ2 h2 σa2, i + m = t.len ∧ Ext μ1 H1 μ2 H2 ∧ Rel Γ μ2 h2 H2 ∧ RS μ2 σa2 σ2 ∧ OutS Γ W μ H (forGo t turn m i σa2 h2) D, ⟨t.len, μ1, h1, σa, by omega, .refl _ _, r1, rs.mono e1.le, o1⟩, ?_⟩
    rintro i m σ2 H2 ⟨μ2, h2, σa2, him, e2, r2, rs2, o2⟩
    cases m with
    | zero =>
      left
      simp only [forGo] at o2
      split at o2
      · rename_i hf
        exact ⟨(hJ i μ2 h2 H2 e2 r2).2 (by omega) hf, o2 μ2 H2 σ2 (e1.trans e2) r2 rs2⟩
      · exact o2.elim
    | succ m =>
      right
      simp only [forGo] at o2
      split at o2
      · rename_i vs hit
        obtain ⟨hgo, hyld⟩ := (hJ i μ2 h2 H2 e2 r2).1 vs (by omega) hit
        refine ⟨hgo, fun σ' H' => ∃ μ3 h3 σa3, (i + 1) + m = t.len ∧ Ext μ1 H1 μ3 H' ∧ Rel Γ μ3 h3 H' ∧ RS μ3 σa3 σ' ∧ OutS Γ W μ H (forGo t turn m (i + 1) σa3 h3) D, fun σ' H' q => ⟨m, Nat.lt_succ_self m, q⟩, fun x H' hy => ?_⟩
        have Y := hyld x H' hy
        rw [hx.K]
        have o2 : OutS Γ W μ H ((match bindIt h2 g vs σa2 with | some σ2 => evB C b σ2 h2 | none => SRs.no).seq fun σ1 h1 => forGo t turn m (i + 1) σ1 h1) D := o2
        cases hb : bindIt h2 g vs σa2 with
        | none => rw [hb] at o2; exact o2.elim
        | some σa3 =>
          rw [hb] at o2
          refine bindIt_ok g.slots (fun i hi => hi) Y rs2 hb fun σ3 rs3 _ => ?_
          obtain ⟨r3, e3, _⟩ := Y
          refine ⟨μ2, h2, σa3, r3, rs3, (OutS.seq o2 ((e1.trans e2).trans e3)).imp (fun σ4 H4 ⟨μ4, h4, σa4, e4, r4, rs4, o4⟩ => ⟨μ4, h4, σa4, by omega, (e2.trans e3).trans e4, r4, rs4, o4⟩) fun _ _ q => q⟩
      · exact o2.elim
theorem t_lock {i : Nat} {s : S} {st : Stmt} (hs : PS X st (tSt Γ W C s)) : PS X st (tSt Γ W C (.lock i s)) :=
  PS.imp (ps_lock hs) fun D σ H ⟨μ, h, σa, rl, rs, o⟩ => by
    simp only [evS] at o
    split at o
    · rename_i n h1 q
      obtain ⟨kvs, d, ws, hm, hg, hd, r, rfl, rl2⟩ := lockA_ok rl rs q
      refine ⟨d, _, hd, True.intro, fun od => ⟨μ, _, σa, rl2 od, rs, ?_⟩⟩
      cases z : evS C s σa (h.set n (.dctL kvs)) with
      | no => rw [z] at o; exact o.elim
      | ex c fs h1 => rw [z] at o; exact o.elim
      | nx σ1 h1 =>
        rw [z] at o
        have o : OutS Γ W μ H (match unlock n h1 with | some h1 => .nx σ1 h1 | none => .no) D := o
        intro μ1 H1 σ2 e1 r1 rs1
        split at o
        · rename_i h3 q2
          obtain ⟨f1, f2, f3⟩ := unlock_ok hm hd e1 r1 q2
          exact ⟨f1, o _ _ _ f2 f3 rs1⟩
        · exact o.elim
      | rt v h1 =>
        rw [z] at o
        have o : OutS Γ W μ H (match unlock n h1 with | some h1 => .rt v h1 | none => .no) D := o
        intro μ1 H1 x e1 r1 rv
        split at o
        · rename_i h3 q2
          obtain ⟨f1, f2, f3⟩ := unlock_ok hm hd e1 r1 q2
          exact ⟨f1, o _ _ _ f2 f3 rv⟩
        · exact o.elim
    · exact o.elim
end
end AH

set_option Elab.async false
set_option linter.all false
set_option maxRecDepth 100000
set_option maxHeartbeats 4000000
/-! AH16: errors: their classes, raise. -/
namespace AH
open PySem PySem.Spec L2
section
variable {M : Nm} {N : List Str} {Γ : Gm} {C : Cf} {lm : Bool} {k : Nat} {sc : Scope} {cf : Str → Bool} {W : XK} {X : Cx} {pos : Pos} {μ μ0 μ1 : Mu} {h : AHp} {H H0 H1 : Hp} {tg : Expr}
theorem zip_rel : ∀ {fs : List Nat} {vs : List AV} {ws : List V}, RVs μ vs ws → RF Γ μ (fs.zip vs) ((fs.map Γ.nmF).zip ws)
  | [], _, _, _ => .nil
  | _ :: _, [], _, .nil => .nil
  | f :: fs, v :: vs, w :: ws, .cons r t => .cons ⟨rfl, r⟩ (zip_rel t)
theorem Pd.reverse {α β : Type} {R : α → β → Prop} : ∀ {xs : List α} {ys : List β}, Paired R xs ys → Paired R xs.reverse ys.reverse
  | _, _, .nil => .nil
  | _, _, .cons r t => by
    rw [List.reverse_cons, List.reverse_cons]
    exact Pd.append (Pd.reverse t) (.cons r .nil)
theorem passes_none {X : Cx} : Passes (L2.CX X.prog X.w) X (fun _ _ _ => False) := fun _ _ _ _ _ _ _ ⟨_, _, _, _, _, _, _, _, _, _, _, _, e⟩ => e.elim
theorem t_raise {c : Nat} {es : L} {fs : List Nat} {x : Str} {a : Expr} {as : List Expr} {p p2 : Pos} (hx : HX M N Γ C lm k sc cf W X) (hr : Room 3 X.A) (hc : C.P.cls c = some fs) (hz : fs.length ≤ 900) (ck : ClsOk X.prog X.w X.K X.mg X.base (Γ.nmC c) x (fs.map Γ.nmF)) (hg : glb sc x = true) (hn : nmOk x = true) (hs : noStars (a :: as) = true) (ha : PA X (a :: as) (tL Γ W C es)) :
    PS X (.Raise (some (.Call (.Name x p) (a :: as) [] p2)) none pos) (tSt Γ W C (.raise c es)) := by
  obtain ⟨fI, fd, ps, h1, h2, h3, h4⟩ := ck.init
  have hs' : noStar a = true ∧ noStars as = true := by
    unfold noStars at hs; rw [List.all_cons, Bool.and_eq_true] at hs; exact hs
  refine PS.imp (ps_raise hx.calm hx.tk (pmk_oex ck.oex h1 h2 h4 hr h3 .nil passes_none (hx.glb hg) ck.glo ha (nm_debug hn) (star1 hs'.1 _ _) (stars_any hs'.2 _ _))) fun D σ H ⟨μ, h, σa, rl, rs, o⟩ => ?_
  refine ⟨μ, h, σa, rl, rs, (OutS.bind (RA := RVsh) o (.refl _ _)).imp fun ws H1 ⟨μ1, h1, vs, _, e1, r1, rv, o1⟩ => ?_⟩
  rw [hc] at o1
  have o1 : OutS Γ W μ H (if vs.length = fs.length then .ex c (fs.zip vs).reverse h1 else .no) D := o1
  split at o1
  · rename_i hl
    have hl2 := Pd.length rv
    refine ⟨by omega, fun a ha => ⟨a, ws, by rw [List.append_nil], by rw [List.length_map]; omega, upd_same, fun dx H2 hdx hne g1 g2 g3 => ⟨rfl, dx, _, g1, g2, by rw [upd_ne hne] at hdx; exact hdx, ?_⟩⟩⟩
    have hd1 : H1 dx = none := by rw [upd_ne hne] at hdx; exact hdx
    have eH : upd (del H2 a) dx (.xd ((fs.map Γ.nmF).zip ws).reverse) = upd H1 dx (.xd ((fs.map Γ.nmF).zip ws).reverse) := by
      funext b
      by_cases hb : b = dx
      · rw [hb, upd_same, upd_same]
      · rw [upd_ne hb, upd_ne hb]
        by_cases hba : b = a
        · rw [hba, del_same, ha]
        · rw [del_ne hba, g3 b hba hb, upd_ne hba]
    show W _ _ _
    rw [eH]
    obtain ⟨r2, e2⟩ := r1.other (u := .xd ((fs.map Γ.nmF).zip ws).reverse) hd1
    exact o1 μ1 _ dx _ (e1.trans e2) r2 upd_same (Pd.reverse (zip_rel rv))
  · exact o1.elim
end
end AH

set_option Elab.async false
set_option linter.all false
set_option maxRecDepth 100000
set_option maxHeartbeats 4000000
/-! AH17: keyword calls; lambdas handed to defs that ask. -/
namespace AH
open PySem PySem.Spec L2
section
variable {M : Nm} {N : List Str} {Γ : Gm} {C : Cf} {lm : Bool} {k : Nat} {sc : Scope} {cf : Str → Bool} {W : XK} {X : Cx} {pos : Pos} {μ μ0 μ1 : Mu} {h : AHp} {H H0 H1 : Hp} {tg : Expr}
/-! ### keywords -/
theorem PK.imp {X : Cx} {e : List Keyword} {t t' : TA} (p : PK X e t) (f : ∀ σ H Q, t' σ H Q → t σ H Q) : PK X e t' := ⟨fun pos pins s σ H Q I h => p.run pos pins s σ H Q I (f σ H Q h)⟩
theorem k_nil : PK X [] (tL Γ W C .nil) := PK.imp pk_nil fun σ H Q ⟨μ, h, σa, r, rs, o⟩ => Out.here o r .nil
theorem k_cons {e : E} {r : L} {x : Expr} {xs : List Keyword} {nm : Option Str} {kp : Pos} (he : PE X x (tE Γ W C e)) (hr : PK X xs (tL Γ W C r)) : PK X (⟨nm, x, kp⟩ :: xs) (tL Γ W C (.cons e r)) :=
  PK.imp (pk_cons he hr) fun σ H Q ⟨μ, h, σa, rl, rs, o⟩ => ⟨μ, h, σa, rl, rs, (Out.bind (RA := RVh) o (.refl _ _)).imp fun x H1 ⟨μ1, h1, v, _, e1, r1, rv, o1⟩ =>
    ⟨μ1, h1, σa, r1, rs.mono e1.le, (Out.bind (RA := RVsh) o1 e1).imp fun ys H2 ⟨μ2, h2, vs, _, e2, r2, rvs, o2⟩ => (Out.shift o2 (e1.trans e2)).here r2 (.cons (rv.mono e2.le) rvs)⟩⟩
def kwNames : List Keyword → Option (List Str)
  | [] => some []
  | ⟨some n, _, _⟩ :: r => (kwNames r).map (n :: ·)
  | _ => none
theorem kw_all : ∀ {kws : List Keyword} {ks : List Str} (pos : Pos) (env : Env), kwNames kws = some ks → (backToKw pos (keywordEach kws env)).all (·.1.isSome) = true ∧ (backToKw pos (keywordEach kws env)).filterMap (·.1) = ks ∧ (backToKw pos (keywordEach kws env)).any (·.1.isNone) = false
  | [], ks, pos, env, h => by cases h; exact ⟨rfl, rfl, rfl⟩
  | ⟨some n, x, p⟩ :: r, ks, pos, env, h => by
    unfold kwNames at h
    cases q : kwNames r with
    | none => rw [q] at h; cases h
    | some ms =>
      rw [q] at h
      cases h
      obtain ⟨a, b, c⟩ := kw_all (kws := r) pos env q
      have e : keywordEach (⟨some n, x, p⟩ :: r) env = (some n, eval x env) :: keywordEach r env := rfl
      rw [e]
      unfold backToKw at a b c ⊢
      exact ⟨by simpa using a, by simpa using b, by simpa using c⟩
  | ⟨none, x, p⟩ :: r, ks, pos, env, h => by cases h
theorem perm_rel {R : AV → V → Prop} {vs : List AV} {xs : List V} (r : Paired R vs xs) : ∀ {perm : List Nat} {ws : List AV}, permA vs perm = some ws → Paired R ws (permV xs perm) ∧ ws.length = perm.length
  | [], ws, h => by cases h; exact ⟨.nil, rfl⟩
  | i :: p, ws, h => by
    unfold permA at h
    split at h
    · rename_i v us e1 e2
      cases h
      obtain ⟨y, q1, q2⟩ := Pd.get r e1
      obtain ⟨a, b⟩ := perm_rel r e2
      unfold permV
      rw [q1]
      exact ⟨.cons q2 a, by simp [b]⟩
    · cases h
theorem permV_rel {xs : List V} {us : List Value} (r : Vals xs us) : ∀ perm : List Nat, Vals (permV xs perm) (permV us perm)
  | [] => .nil
  | i :: p => by
    unfold permV
    cases q : xs[i]? with
    | none =>
      have : us[i]? = none := by
        rw [List.getElem?_eq_none_iff] at q ⊢
        rw [← r.length]; exact q
      rw [this]
      exact permV_rel r p
    | some v =>
      obtain ⟨u, h1, h2⟩ := r.get q
      rw [h1]
      exact .cons h2 (permV_rel r p)
theorem pe_callK0 {f : Addr} {fd : FuncData} {ps : List Str} {sp : Sp} {E : St → XK} {x : Str} {p : Pos} {CX : CXT} {kws : List Keyword} {ks : List Str} {perm : List Nat} {tk : TA} (F : FnOk X.prog X.w X.K X.mg X.base CX k f fd ps sp) (hr : Room k X.A) (hg : Gl X x) (hm : X.mg x = some (.ref f)) (hk : PySem.W.keepIn X.K (.ref f) = true)
    (hb : ∀ (s : Shared) (ws : List Value), ws.length = ks.length → BindsTo s fd ⟨[], ks.zip ws⟩ (ps.zip (permV ws perm))) (hx : ∀ σ, PassesAt CX X σ (E σ)) (hkw : PK X kws tk) (hn : kwNames kws = some ks) (hdb : (x == ("__debug__" : Str)) = false) :
    PE X (.Call (.Name x p) [] kws pos) (fun σ H Q => tk σ H fun zs H1 => zs.length = ks.length ∧ sp (permV zs perm) H1 Q (E σ)) := by
  refine ⟨fun pins s σ H Q I h => ?_⟩
  obtain ⟨h1, h2, h3⟩ := kw_all pos X.env hn
  refine wpAny_Call_Name_kw (ld_glob I hg hm ?_ hdb)
  refine PySem.W.callWith_KW0 (h₀ := X.base) I.ok.mod.kin hk h1 (thn (hkw.run pos pins s σ H _ I h) fun ws s2 ⟨zs, H2, I2, rz, l, q2⟩ => ⟨I2.kIn, ?_⟩) (by rw [h3]; rfl)
  rw [h2]
  show wpAny _ _ (call (.ref f) [] (ks.zip ws)) _ _ _
  refine wpAny_call (codeAny_mono (F.run X.A X.stack s2 H2 ⟨[], ks.zip ws⟩ (permV ws perm) (permV zs perm) Q (E σ) hr I2.env0 (hb s2 ws (rz.length.symm.trans l)) (permV_rel rz perm) q2) fun r s' hq => ?_)
  cases r with
  | error e => exact hx σ pins H2 s2 e s' I2 hq
  | ok fl =>
    cases fl with
    | ret u => exact I2.after hq
    | next => exact False.elim hq
    | brk => exact False.elim hq
    | cont => exact False.elim hq
theorem s_callk {f : Nat} {es : L} {kws : List Keyword} {ks : List Str} {perm : List Nat} {p : Pos} (hx : HX M N Γ C lm k sc cf W X) (hf : M.has f = true) (hp : (ks, perm) ∈ M.kws f) (hl : perm.length = (M.ps f).length) (hl2 : ks.length = perm.length) (hn : kwNames kws = some ks) (hg : glb sc (M.fn f) = true) (hn2 : nmOk (M.fn f) = true) (hk : PK X kws (tL Γ W C es)) (hz : ∀ σ h vs h1, evL C es σ h = .ok vs h1 → vs.length = ks.length) :
    PE X (.Call (.Name (M.fn f) p) [] kws pos) (tE Γ W C (.callk f es perm)) := by
  obtain ⟨hla, fa, fd, hm, hke, hb, F, hbk⟩ := hx.fn f hf
  refine PE.imp (pe_callK0 F hx.room (hx.glb hg) hm hke (hbk _ hp) (fun σ => passAt hx.tk σ) hk hn (nm_debug hn2)) fun σ H Q q => ?_
  obtain ⟨μ, h, σa, rl, rs, o⟩ := q
  refine ⟨μ, h, σa, rl, rs, (Out.bind (RA := RVsh) o (.refl _ _)).imp fun ys H1 ⟨μ1, h1, vs, ev, e1, r1, rv, o1⟩ => ?_⟩
  cases qp : permA vs perm with
  | none => rw [qp] at o1; exact o1.elim
  | some ws =>
    rw [qp] at o1
    obtain ⟨a, b⟩ := perm_rel rv qp
    exact ⟨by rw [← Pd.length rv]; exact hz _ _ _ _ ev, by rw [← Pd.length a, b]; exact hl, μ1, h1, ws, r1, a, o1.shift e1⟩
/-! ### lambdas -/
def noPar : Arguments → Bool
  | ⟨[], [], none, [], [], none, []⟩ => true
  | _ => false
theorem noPar_ok {p : Arguments} (h : noPar p = true) : p = ⟨[], [], none, [], [], none, []⟩ := by
  unfold noPar at h
  split at h
  · rfl
  · cases h
theorem lam_bind (q : Str) (body : Expr) (scope : Scope) (cl : List (Str × Addr)) (pm cv ctv : Value) : bindArgs (PySem.W.kla_fn "<lambda>" q ⟨[], [], none, [], [], none, []⟩ body scope cl pm cv ctv) ⟨[], []⟩ = pure [] := by
  first | rfl | kernel_rfl
theorem Rel.extN (r : Rel Γ μ h H) (e : LamX.ExtN H H1) (t : LamX.Tabs Γ.T H1) : Rel Γ μ h H1 ∧ Ext μ H μ H1 := by
  refine ⟨⟨fun i o q => ?_, r.inj, r.dom, fun i a q => ?_, t⟩, ⟨fun _ _ q => q, fun i _ q => .inl ⟨i, q⟩, fun b o q nt _ => e b o q nt, fun b xs q => e b _ q (fun _ z => by cases z), fun b o u q => e b _ q (fun _ z => by cases z)⟩⟩
  · obtain ⟨a, q1, q2⟩ := r.obj i o q
    obtain ⟨u, hu, nt⟩ := q2.some
    exact ⟨a, q1, q2.mono (fun _ _ q => q) (by rw [hu]; exact e a u hu nt)⟩
  · obtain ⟨u, hu, nt⟩ := r.trk i a q
    exact ⟨u, e a u hu nt, nt⟩
theorem lam_hx {A : Around} {outer : List Env} {s : Shared} {E : XK} {scope : Scope} {f c' : Addr} {lm' : Bool} (hx : HX M N Γ C lm k sc cf W X) (hr : Room k (A.deeper (LamX.lamEnv X scope s.heap.objs.size f c'))) : HX M N Γ C false k scope (fun _ => false) E (LamX.lamCx X A outer s H E scope f c') where
  fnc := fun x z => by cases z
  hN := hx.hN
  nd := hx.nd
  sc := rfl
  K := hx.K
  calm := rfl
  room := hr
  tk := takes_of rfl rfl rfl rfl
  ps := passes_of rfl
  fn := hx.fn
  bl := hx.bl
  k3 := hx.k3
  cl := hx.cl
  xm := hx.xm
  mt := hx.mt
  lam := fun z => by cases z
  con := hx.con
theorem hdl_ok {K : PySem.W.Frag} {c : Nat} {d : Option Addr} {Q : VK} : ∀ (hs : List (Nat × Str × HK)) (w : Str) (hk : HK) (c' : Nat), (∀ q ∈ hs, PySem.W.exmOne K (.ref (Γ.nmC c)) (.ref (Γ.nmC q.1)) = some (c == q.1)) → hs.find? (fun q => q.1 == c) = some (c', w, hk) → hkM K Γ w hk (.ref (Γ.nmC c)) d H Q → hdlM K Γ hs (.ref (Γ.nmC c)) d H Q
  | [], _, _, _, _, h, _ => by cases h
  | (c1, w1, hk1) :: r, w, hk, c', hx, h, q => by
    refine ⟨c == c1, hx (c1, w1, hk1) (by simp), fun e => ?_, fun e => ?_⟩
    · have e' : (c1 == c) = true := by rw [beq_iff_eq] at e ⊢; exact e.symm
      rw [List.find?_cons] at h
      simp only [e'] at h
      cases h
      exact q
    · have e' : (c1 == c) = false := by rw [beq_eq_false_iff_ne] at e ⊢; exact fun z => e z.symm
      rw [List.find?_cons] at h
      simp only [e'] at h
      exact hdl_ok r w hk c' (fun q hq => hx q (by simp [hq])) h q
/-- a field by its name -/
theorem fld_ok {f : Nat} {fl : List Nat} (inj : ∀ g ∈ fl, Γ.nmF g = Γ.nmF f → g = f) : ∀ {fs : List (Nat × AV)} {ws : List (Str × V)} {v : AV}, RF Γ μ fs ws → (∀ p ∈ fs, p.1 ∈ fl) → fldOf f fs = some v → ∃ x, ws.lookup (Γ.nmF f) = some x ∧ RV μ v x
  | [], _, _, _, _, h => by cases h
  | p :: fs, q :: ws, v, .cons ⟨e1, e2⟩ t, hin, h => by
    unfold fldOf at h
    split at h
    · rename_i e
      cases h
      exact ⟨q.2, by rw [List.lookup_cons, ← e1, e, beq_self_eq_true], e2⟩
    · rename_i ne
      obtain ⟨x, h1, h2⟩ := fld_ok inj t (fun p hp => hin p (by simp [hp])) h
      refine ⟨x, ?_, h2⟩
      have : (Γ.nmF f == q.1) = false := by
        rw [beq_eq_false_iff_ne]
        intro z
        exact ne (inj p.1 (hin p (by simp)) (e1.trans z.symm))
      rw [List.lookup_cons, this]
      exact h1
theorem s_met {f : Nat} {e : E} {told : Str} {hs : List (Nat × Str × HK)} {p lpos : Pos} {params : Arguments} {body : Expr} {scope : Scope} (hx : HX M N Γ C true k sc cf W X) (hm : C.P.met f = some (told, hs)) (hg : glb sc (M.fn f) = true) (hn : nmOk (M.fn f) = true) (hp : noPar params = true) (hl : LamX.lamSB sc scope = true)
    (he : ∀ (E : XK) X', HX M N Γ C false k scope (fun _ => false) E X' → PE X' body (tE Γ E C e)) : PE X (.Call (.Name (M.fn f) p) [.Lambda params body scope lpos] [] pos) (tE Γ W C (.met f e)) := by
  obtain ⟨hcl, ⟨g, a, oc, od, pg, bg, sg, dV, kV, doc, pm, an, cdv, ct, osl, Ng, m1, m2, m3, m4, m5, m6, m7, m8, m9, m10, m11⟩⟩ := hx.mt f told hs hm
  obtain ⟨hr2, c, P, TB, hcode, hmT, hu⟩ := hx.lam rfl
  have hpp := noPar_ok hp
  subst hpp
  refine PE.imp (LamX.pe_lamcall (T := Γ.T) (t := fun E => tE Γ E C e) (hx.glb hg) m1 m2 m3 m4 m5 m6 m7 m8 (m11 X _ rfl rfl rfl rfl rfl) TB hcode hmT hu hr2 (by rw [hx.sc]; exact LamX.lamS_by hl) rfl (fun q cl pm cv ctv => lam_bind q body scope cl pm cv ctv) (fun A outer s H E f c' hr => he E _ (lam_hx (lm' := false) hx hr)) (nm_debug hn) m9 m10) fun σ H Q q => ?_
  obtain ⟨μ, h, σa, rl, rs, o⟩ := q
  refine ⟨rl.tab, fun H1 eN T1 => ?_⟩
  obtain ⟨rl1, e0⟩ := rl.extN eN T1
  refine ⟨μ, h, σa, rl1, rs, ?_⟩
  simp only [evE, hm] at o
  cases z : evE C e σa h with
  | no => rw [z] at o; exact o.elim
  | ok v h1 =>
    rw [z] at o
    exact fun μ1 H2 x e1 r1 rv p hp => (Out.shift (show Out Γ W μ H (.ok (.ref h1.n) (h1.add (.tup [.str told, v]))) RVh Q from o) (e0.trans e1)).new r1 hp ⟨_, upd_same, .cons rfl (.cons (rv.mono r1.addLe) .nil)⟩
  | ex c fs h1 =>
    rw [z] at o
    have o : Out Γ W μ H (match C.P.cls c with | some fl => handX hs c fl fs h1 | none => .no) RVh Q := o
    intro μ1 H2 d ws e1 r1 hd rf
    cases qc : C.P.cls c with
    | none => rw [qc] at o; exact o.elim
    | some fl =>
      rw [qc] at o
      have o : Out Γ W μ H (handX hs c fl fs h1) RVh Q := o
      unfold handX at o
      split at o
      · rename_i hin
        have hin' : ∀ p ∈ fs, p.1 ∈ fl := fun p hp => by
          have := List.all_eq_true.mp hin p hp
          simpa using this
        obtain ⟨_, ck, inj⟩ := hx.cl c fl qc
        have xm : ∀ q ∈ hs, PySem.W.exmOne X.K (.ref (Γ.nmC c)) (.ref (Γ.nmC q.1)) = some (c == q.1) := fun q hq => hx.xm c q.1 (by rw [qc]; rfl) (hcl q hq)
        have mem : ∀ f v, fldOf f fs = some v → f ∈ fl := fun f v hf => by
          have : ∀ {fs : List (Nat × AV)}, fldOf f fs = some v → ∃ p ∈ fs, p.1 = f := by
            intro fs
            induction fs with
            | nil => intro h; cases h
            | cons p r ih =>
              intro h
              unfold fldOf at h
              split at h
              · rename_i e; exact ⟨p, by simp, e⟩
              · obtain ⟨p', h1, h2⟩ := ih h
                exact ⟨p', by simp [h1], h2⟩
          obtain ⟨p, h1, h2⟩ := this hf
          rw [← h2]; exact hin' p h1
        have rd : ∀ f v, fldOf f fs = some v → (∃ x, ws.lookup (Γ.nmF f) = some x ∧ RV μ1 v x) ∧ PySem.W.findIn X.K (.ref (Γ.nmC c)) (Γ.nmF f) = some none := fun f v hf =>
          ⟨fld_ok (fl := fl) (fun g hg e => inj g hg f (mem f v hf) e) rf hin' hf, ck.nof _ (List.mem_map.mpr ⟨f, mem f v hf, rfl⟩)⟩
        split at o
        · rename_i c' w f q1
          split at o
          · rename_i v q2
            obtain ⟨⟨x, l1, rx⟩, nf⟩ := rd f v q2
            exact hdl_ok hs w (.fld f) c' xm q1 ⟨_, d, ws, x, rfl, ck.xf, nf, rfl, hd, l1, fun p hp => (Out.shift o (e0.trans e1)).new r1 hp ⟨_, upd_same, .cons rfl (.cons (rx.mono r1.addLe) .nil)⟩⟩
          · exact o.elim
        · rename_i c' w f g q1
          split at o
          · rename_i u v q2 q3
            obtain ⟨⟨x, l1, rx⟩, nf⟩ := rd f u q2
            obtain ⟨⟨y, l2, ry⟩, nf2⟩ := rd g v q3
            refine hdl_ok hs w (.two f g) c' xm q1 ⟨_, d, ws, x, y, rfl, ck.xf, nf, nf2, rfl, hd, l1, l2, fun p hp q hq => ?_⟩
            obtain ⟨r2, e2⟩ := r1.add (o := .tup [u, v]) (u := .tup [x, y]) hp ⟨_, upd_same, .cons (rx.mono r1.addLe) (.cons (ry.mono r1.addLe) .nil)⟩
            exact Out.new (W := W) (Out.shift o ((e0.trans e1).trans e2)) r2 hq ⟨_, upd_same, .cons rfl (.cons ⟨p, r2.addLe _ _ Mu.add_same, rfl⟩ .nil)⟩
          · exact o.elim
        · rename_i c' w q1
          exact hdl_ok hs w .none c' xm q1 fun p hp => (Out.shift o (e0.trans e1)).new r1 hp ⟨_, upd_same, .cons rfl (.cons rfl .nil)⟩
        · exact o.elim
      · exact o.elim
/-! ### in a heap of its own -/
theorem flat_rv {μ μ' : Mu} {v : AV} {x : V} (hf : flatA v = true) (r : RV μ v x) : RV μ' v x := by
  cases v with
  | ref n => cases hf
  | _ => exact r
theorem scal_get : ∀ (σ : Sl) (i : Nat) (v : AV), (scal σ)[i]? = some (some v) → σ[i]? = some (some v) ∧ flatA v = true
  | [], i, v, h => by simp [scal] at h
  | some w :: r, 0, v, h => by
    simp only [scal, List.getElem?_cons_zero, Option.some.injEq] at h
    split at h
    · rename_i c; cases h; exact ⟨rfl, c⟩
    · cases h
  | none :: r, 0, v, h => by simp [scal] at h
  | some w :: r, i + 1, v, h => by
    simp only [scal, List.getElem?_cons_succ] at h ⊢
    exact scal_get r i v h
  | none :: r, i + 1, v, h => by
    simp only [scal, List.getElem?_cons_succ] at h ⊢
    exact scal_get r i v h
theorem scal_len : ∀ σ : Sl, (scal σ).length = σ.length
  | [] => rfl
  | some _ :: r => by simp [scal, scal_len r]
  | none :: r => by simp [scal, scal_len r]
theorem scal_rs {σa : Sl} {σ : St} {μ' : Mu} (rs : RS μ σa σ) : RS μ' (scal σa) σ := ⟨by rw [scal_len]; exact rs.1, fun i v q => by
  obtain ⟨q1, q2⟩ := scal_get σa i v q
  obtain ⟨x, h1, h2⟩ := rs.2 i v q1
  exact ⟨x, h1, flat_rv q2 h2⟩⟩
theorem emp_rel (r : Rel Γ μ h H) : Rel Γ (fun _ => none) AHp.emp H := ⟨fun i o q => (by rw [AHp.get_emp] at q; cases q), fun i j a q _ => (by cases q), fun i a q => (by cases q), fun i a q => (by cases q), r.tab⟩
theorem emp_back {μ1 : Mu} {h1 : AHp} (r : Rel Γ μ h H) (e : Ext (fun _ => none) H μ1 H1) (r1 : Rel Γ μ1 h1 H1) : Ext μ H μ H1 ∧ Rel Γ μ h H1 := by
  have k : ∀ b o, H b = some o → (∀ ps, o ≠ .tbl ps) → H1 b = some o := fun b o q nt => e.fr b o q nt fun i z => by cases z
  refine ⟨⟨fun _ _ q => q, fun i _ q => .inl ⟨i, q⟩, fun b o q nt _ => k b o q nt, e.tups, e.frzs⟩, ⟨fun i o q => ?_, r.inj, r.dom, fun i a q => ?_, r1.tab⟩⟩
  · obtain ⟨a, q1, q2⟩ := r.obj i o q
    obtain ⟨u, hu, nt⟩ := q2.some
    exact ⟨a, q1, q2.mono (fun _ _ q => q) (by rw [hu]; exact k a u hu nt)⟩
  · obtain ⟨u, hu, nt⟩ := r.trk i a q
    exact ⟨u, k a u hu nt, nt⟩
theorem s_iso {e : E} {x : Expr} (he : PE X x (tE Γ W C e)) : PE X x (tE Γ W C (.iso e)) :=
  PE.imp he fun σ H Q ⟨μ, h, σa, rl, rs, o⟩ => by
    simp only [evE] at o
    refine ⟨fun _ => none, AHp.emp, scal σa, emp_rel rl, scal_rs rs, ?_⟩
    split at o
    · rename_i v h1 ev
      rw [ev]
      split at o
      · rename_i hf
        intro μ1 H1 x e1 r1 rv
        obtain ⟨e2, r2⟩ := emp_back rl e1 r1
        exact o μ H1 x e2 r2 (flat_rv hf rv)
      · exact o.elim
    · exact o.elim
theorem b_iso {b : B} {sts : List Stmt} (hb : PSs X sts (tB Γ W C b)) : PSs X sts (tB Γ W C (.iso b)) :=
  PSs.imp hb fun D σ H ⟨μ, h, σa, rl, rs, o⟩ => by
    simp only [evB] at o
    refine ⟨fun _ => none, AHp.emp, scal σa, emp_rel rl, scal_rs rs, ?_⟩
    split at o
    · rename_i v h1 ev
      rw [ev]
      split at o
      · rename_i hf
        intro μ1 H1 x e1 r1 rv
        obtain ⟨e2, r2⟩ := emp_back rl e1 r1
        exact o μ H1 x e2 r2 (flat_rv hf rv)
      · exact o.elim
    · exact o.elim
end
end AH

set_option Elab.async false
set_option linter.all false
set_option maxRecDepth 100000
set_option maxHeartbeats 4000000
/-! AH18: the text is looked at; what passes is kept. -/
namespace AH
open PySem PySem.Spec L2
def E.isNon : E → Bool
  | .non => true
  | _ => false
def L.isNil : L → Bool
  | .nil => true
  | _ => false
def L.len? : L → Option Nat
  | .nil => some 0
  | .cons _ r => r.len?.map (· + 1)
  | .star _ _ => none
theorem evL_len {C : Cf} : ∀ (es : L) (n : Nat), es.len? = some n → ∀ σ h vs h1, evL C es σ h = .ok vs h1 → vs.length = n
  | .nil, n, hn, σ, h, vs, h1, e => by cases hn; simp only [evL] at e; cases e; rfl
  | .cons x r, n, hn, σ, h, vs, h1, e => by
    unfold L.len? at hn
    cases q : r.len? with
    | none => rw [q] at hn; cases hn
    | some m =>
      rw [q] at hn
      cases hn
      simp only [evL] at e
      cases q1 : evE C x σ h with
      | no => rw [q1] at e; cases e
      | ex _ _ _ => rw [q1] at e; cases e
      | ok v h2 =>
        rw [q1] at e
        have e : (evL C r σ h2).bind (fun vs h2 => .ok (v :: vs) h2) = .ok vs h1 := e
        cases q2 : evL C r σ h2 with
        | no => rw [q2] at e; cases e
        | ex _ _ _ => rw [q2] at e; cases e
        | ok us h3 =>
          rw [q2] at e
          cases e
          exact congrArg Nat.succ (evL_len r m q σ h2 us _ q2)
  | .star _ _, n, hn, _, _, _, _, _ => by cases hn
def isTupT : Expr → Bool
  | .Tuple .. => true
  | _ => false
def E.isLc : E → Bool
  | .lc .. => true
  | .lcf .. => true
  | _ => false
def swapC (N : List Str) (sc : Scope) (i : Nat) (y : Str) (p : Pos) : Expr → Bool
  | .ListComp _ _ scope p2 => swapOk N sc scope i y p p2
  | _ => false
section
variable (M : Nm) (N : List Str) (P : Prog)
mutual
def chkE (lm : Bool) (sc : Scope) (cf : Str → Bool) : E → Expr → Bool
  | .var i, x => (match x with | .Name x _ => decide (N[i]? = some x) && vis sc x && nmOk x | _ => false)
  | .int i, x => (match x with | .Constant (.int j) _ _ => decide (i = j) | _ => false)
  | .bl i, x => (match x with | .Constant (.bool j) _ _ => decide (i = j) | _ => false)
  | .non, x => (match x with | .Constant .none _ _ => true | _ => false)
  | .str i, x => (match x with | .Constant (.str j) _ _ => decide (i = j) | _ => false)
  | .glo c, x => (match x with | .Name x _ => decide (x = M.con c) && glb sc x && nmOk x | _ => false)
  | .bin o a b, x => (match x with | .BinOp x op y _ => decide (op = opOf o) && chkE lm sc cf a x && chkE lm sc cf b y | _ => false)
  | .neg a, x => (match x with | .UnaryOp .USub x _ => chkE lm sc cf a x | _ => false)
  | .not a, x => (match x with | .UnaryOp .Not x _ => chkE lm sc cf a x | _ => false)
  | .and a b, x => (match x with
    | .BoolOp .And [x, y] _ => chkE lm sc cf a x && chkE lm sc cf b y
    | .BoolOp .And (x :: y :: z :: r) _ => chkE lm sc cf a x && chkR lm sc cf .And b (y :: z :: r)
    | _ => false)
  | .or a b, x => (match x with
    | .BoolOp .Or [x, y] _ => chkE lm sc cf a x && chkE lm sc cf b y
    | .BoolOp .Or (x :: y :: z :: r) _ => chkE lm sc cf a x && chkR lm sc cf .Or b (y :: z :: r)
    | _ => false)
  | .cmp o a b, x => (match x with | .Compare x [op] [y] _ => decide (op = cOf o) && noSet y && chkE lm sc cf a x && chkE lm sc cf b y | _ => false)
  | .cmp2 o o2 a b c, x => (match x with | .Compare x [op, op2] [y, z] _ => decide (op = cOf o) && decide (op2 = cOf o2) && noSet z && chkE lm sc cf a x && chkE lm sc cf b y && chkE lm sc cf c z | _ => false)
  | .ite c a b, x => (match x with | .IfExp z x y _ => chkE lm sc cf c z && chkE lm sc cf a x && chkE lm sc cf b y | _ => false)
  | .lst es, x => (match x with | .List xs _ => chkL lm sc cf es xs | _ => false)
  | .tup es, x => (match x with | .Tuple xs _ _ => chkL lm sc cf es xs | _ => false)
  | .dct kvs, x => (match x with
    | .Dict [] [] _ => kvs.isNil
    | .Dict keys values _ => kvs.even && chkD lm sc cf kvs keys values && keys.all (·.isSome) && decide (keys.length = values.length) && decide (keys ≠ []) && decide (keys.length ≤ 15)
    | _ => false)
  | .lc e g it own, x => (match x with
    | .ListComp elt [⟨tg, iter, [], z⟩] scope _ => decide (z = 0) && ownOk N sc scope own g && noSet iter && chkG N (relS scope sc) (ownC scope) g tg && chkI lm sc cf it tg iter && chkE false (relS scope sc) (ownC scope) e elt
    | _ => false)
  | .lcf e g it c own, x => (match x with
    | .ListComp elt [⟨tg, iter, [tst], z⟩] scope _ => decide (z = 0) && ownOk N sc scope own g && noSet iter && chkG N (relS scope sc) (ownC scope) g tg && chkI lm sc cf it tg iter && chkE false (relS scope sc) (ownC scope) c tst && chkE false (relS scope sc) (ownC scope) e elt
    | _ => false)
  | .lc2 _ _ _ _ _ _ _, _ => false
  | .dc _ _ _ _ _, _ => false
  | .sub a i, x => (match x with | .Subscript x y _ => noSlice y && chkE lm sc cf a x && chkE lm sc cf i y | _ => false)
  | .sl a lo hi, x => (match x with
    | .Subscript x (.Slice l u none _) _ => chkE lm sc cf a x && (match l with | none => lo.isNon | some y => !lo.isNon && chkE lm sc cf lo y) && (match u with | none => hi.isNon | some y => !hi.isNon && chkE lm sc cf hi y)
    | _ => false)
  | .call f es, x => (match x with
    | .Call (.Name x _) [] [] _ => M.has f && decide (x = M.fn f) && glb sc x && nmOk x && es.isNil
    | .Call (.Name x _) (a :: as) [] _ => M.has f && decide (x = M.fn f) && glb sc x && nmOk x && noStars (a :: as) && chkL lm sc cf es (a :: as)
    | _ => false)
  | .callk f es perm, x => (match x with
    | .Call (.Name x _) [] kws _ => M.has f && decide (x = M.fn f) && glb sc x && nmOk x && (match kwNames kws with
      | some ks => decide ((ks, perm) ∈ M.kws f) && decide (perm.length = (M.ps f).length) && decide (ks.length = perm.length) && decide (es.len? = some ks.length) && chkK lm sc cf es kws
      | none => false)
    | _ => false)
  | .blt b es, x => (match x with
    | .Call (.Name x _) (a :: as) [] _ => decide (x = biS b) && glb sc x && noStars (a :: as) && chkL lm sc cf es (a :: as)
    | _ => false)
  | .isa e one ts, x => (match x with
    | .Call (.Name x _) [a, t] [] _ => decide (x = ("isinstance" : Str)) && glb sc x && noStar a && chkE lm sc cf e a && (match one, ts, t with
      | true, [t1], .Name y _ => decide (y = tyN t1) && glb sc y
      | false, ts, .Tuple es _ _ => tysOk sc ts es && decide (ts.length ≤ 6)
      | _, _, _ => false)
    | _ => false)
  | .lstE e, x => (match x with | .Call (.Name x _) [a] [] _ => decide (x = ("list" : Str)) && glb sc x && noStar a && chkE lm sc cf e a | _ => false)
  | .tupE e, x => (match x with | .Call (.Name x _) [a] [] _ => decide (x = ("tuple" : Str)) && glb sc x && noStar a && chkE lm sc cf e a | _ => false)
  | .dctE e, x => (match x with | .Call (.Name x _) [a] [] _ => decide (x = ("dict" : Str)) && glb sc x && noStar a && chkE lm sc cf e a | _ => false)
  | .lstR1 a, x => (match x with | .Call (.Name x _) [.Call (.Name y _) [u] [] _] [] _ => decide (x = ("list" : Str)) && glb sc x && decide (y = ("range" : Str)) && glb sc y && noStar u && chkE lm sc cf a u | _ => false)
  | .lstR2 a b, x => (match x with | .Call (.Name x _) [.Call (.Name y _) [u, v] [] _] [] _ => decide (x = ("list" : Str)) && glb sc x && decide (y = ("range" : Str)) && glb sc y && noStar u && noStar v && chkE lm sc cf a u && chkE lm sc cf b v | _ => false)
  | .lstIt e, x => (match x with | .Call (.Name x _) [.Call (.Attribute u w ap) [] [] cp] [] _ => decide (x = ("list" : Str)) && glb sc x && decide (w = ("items" : Str)) && baseOk u && (ap.endLine == cp.line) && chkE lm sc cf e u | _ => false)
  | .bad, _ => true
  | .lock _ e, x => plainT x && chkE lm sc cf e x
  | .iso e, x => plainT x && chkE lm sc cf e x
  | .meth m o es, x => (match x with
    | .Call (.Attribute x w ap) [] [] pos => meOk m && decide (w = meS m) && baseOk x && (ap.endLine == pos.line) && chkE lm sc cf o x && es.isNil
    | .Call (.Attribute x w ap) (a :: as) [] pos => meOk m && decide (w = meS m) && baseOk x && (ap.endLine == pos.line) && chkE lm sc cf o x && noStars (a :: as) && few (a :: as) && chkL lm sc cf es (a :: as)
    | _ => false)
  | .met f e, x => (match x with
    | .Call (.Name x _) [.Lambda params body scope _] [] _ => lm && (P.met f).isSome && decide (x = M.fn f) && glb sc x && nmOk x && noPar params && LamX.lamSB sc scope && chkE false scope (fun _ => false) e body
    | _ => false)
def chkR (lm : Bool) (sc : Scope) (cf : Str → Bool) (op : BoolOp) : E → List Expr → Bool
  | .and a b, es => (match op, es with
    | .And, [x, y] => chkE lm sc cf a x && chkE lm sc cf b y
    | .And, x :: y :: z :: r => chkE lm sc cf a x && chkR lm sc cf .And b (y :: z :: r)
    | _, _ => false)
  | .or a b, es => (match op, es with
    | .Or, [x, y] => chkE lm sc cf a x && chkE lm sc cf b y
    | .Or, x :: y :: z :: r => chkE lm sc cf a x && chkR lm sc cf .Or b (y :: z :: r)
    | _, _ => false)
  | _, _ => false
def chkL (lm : Bool) (sc : Scope) (cf : Str → Bool) : L → List Expr → Bool
  | .nil, xs => (match xs with | [] => true | _ => false)
  | .cons e r, xs => (match xs with | x :: xs => noStar x && chkE lm sc cf e x && chkL lm sc cf r xs | _ => false)
  | .star _ _, _ => false
def chkK (lm : Bool) (sc : Scope) (cf : Str → Bool) : L → List Keyword → Bool
  | .nil, xs => (match xs with | [] => true | _ => false)
  | .cons e r, xs => (match xs with | ⟨_, x, _⟩ :: xs => chkE lm sc cf e x && chkK lm sc cf r xs | _ => false)
  | .star _ _, _ => false
def chkD (lm : Bool) (sc : Scope) (cf : Str → Bool) : L → List (Option Expr) → List Expr → Bool
  | .nil, ks, vs => (match ks, vs with | [], [] => true | _, _ => false)
  | .cons e (.cons e2 r), ks, vs => (match ks, vs with | some k :: ks, v :: vs => chkE lm sc cf e k && chkE lm sc cf e2 v && chkD lm sc cf r ks vs | _, _ => false)
  | _, _, _ => false
def chkI (lm : Bool) (sc : Scope) (cf : Str → Bool) : I → Expr → Expr → Bool
  | .seq e, _, x => chkE lm sc cf e x
  | .rng1 a, _, x => (match x with | .Call (.Name x _) [u] [] _ => decide (x = ("range" : Str)) && glb sc x && noStar u && chkE lm sc cf a u | _ => false)
  | .rng2 a b, _, x => (match x with | .Call (.Name x _) [u, v] [] _ => decide (x = ("range" : Str)) && glb sc x && noStar u && noStar v && chkE lm sc cf a u && chkE lm sc cf b v | _ => false)
  | .rng3 _ _ _, _, _ => false
  | .enum e, tg, x => (match tg, x with | .Tuple _ _ _, .Call (.Name x _) [u] [] _ => decide (x = ("enumerate" : Str)) && glb sc x && noStar u && chkE lm sc cf e u | _, _ => false)
  | .enumS e s, tg, x => (match tg, x with | .Tuple _ _ _, .Call (.Name x _) [u, v] [] _ => decide (x = ("enumerate" : Str)) && glb sc x && noStar u && noStar v && chkE lm sc cf e u && chkE lm sc cf s v | _, _ => false)
  | .zip a b, tg, x => (match tg, x with | .Tuple _ _ _, .Call (.Name x _) [u, v] [] _ => decide (x = ("zip" : Str)) && glb sc x && noStar u && noStar v && chkE lm sc cf a u && chkE lm sc cf b v | _, _ => false)
  | .keys e, _, x => chkE lm sc cf e x
  | .vals e, _, x => (match x with | .Call (.Attribute x w ap) [] [] pos => decide (w = ("values" : Str)) && baseOk x && (ap.endLine == pos.line) && chkE lm sc cf e x | _ => false)
  | .items e, tg, x => (match tg, x with | .Tuple _ _ _, .Call (.Attribute x w ap) [] [] pos => decide (w = ("items" : Str)) && baseOk x && (ap.endLine == pos.line) && chkE lm sc cf e x | _, _ => false)
  | .bad, _, _ => true
end
mutual
def chkS (lm : Bool) (sc : Scope) (cf : Str → Bool) : S → Stmt → Bool
  | .asg i e, st => (match st with
    | .Assign [.Name y p] x _ => decide (N[i]? = some y) && chkE M N P lm sc cf e x && ((lcl sc cf y && noSwap sc y x) || (e.isLc && swapC N sc i y p x))
    | _ => false)
  | .asgT gs e, st => (match st with
    | .Assign [.Tuple ts k1 p1] x _ => chkG N sc cf (.tp gs) (.Tuple ts k1 p1) && plainV sc ts x && chkE M N P lm sc cf e x
    | _ => false)
  | .asgP is es, st => (match st, is with
    | .Assign [.Tuple [.Name x px, .Name y py] _ _] (.Tuple [a, b] _ _) _, [i, j] => decide (N[i]? = some x) && decide (N[j]? = some y) && decide (i ≠ j) && isLoc sc x && isLoc sc y && swIs sc [.Name x px, .Name y py] [a, b] [x, y] && chkL M N P lm sc cf es [a, b]
    | .Assign [.Tuple [.Name x px, .Name y py, .Name z pz] _ _] (.Tuple [a, b, c] _ _) _, [i, j, l] => decide (N[i]? = some x) && decide (N[j]? = some y) && decide (N[l]? = some z) && decide (i ≠ j) && decide (i ≠ l) && decide (j ≠ l) && isLoc sc x && isLoc sc y && isLoc sc z && swIs sc [.Name x px, .Name y py, .Name z pz] [a, b, c] [x, y, z] && chkL M N P lm sc cf es [a, b, c]
    | _, _ => false)
  | .setix o i e, st => (match st with
    | .Assign [.Subscript a b _] x _ => noSlice b && chkE M N P lm sc cf o a && chkE M N P lm sc cf i b && chkE M N P lm sc cf e x
    | _ => false)
  | .augN i op e, st => (match st with
    | .AugAssign (.Name y _) o x _ => decide (o = opOf op) && decide (N[i]? = some y) && lcl sc cf y && chkE M N P lm sc cf e x
    | _ => false)
  | .augIx o i op e, st => (match st with
    | .AugAssign (.Subscript a b _) oo x _ => decide (oo = opOf op) && noSlice b && chkE M N P lm sc cf o a && chkE M N P lm sc cf i b && chkE M N P lm sc cf e x
    | _ => false)
  | .ex e, st => (match st with | .Expr x _ => noComp x && chkE M N P lm sc cf e x | _ => false)
  | .ite c a b, st => (match st with | .If x as bs _ => chkE M N P lm sc cf c x && chkB lm sc cf a as && chkB lm sc cf b bs | _ => false)
  | .forS g it b, st => (match st with | .For tg iter bs [] _ => chkG N sc cf g tg && noSet iter && chkI M N P lm sc cf it tg iter && chkB lm sc cf b bs | _ => false)
  | .whl c b, st => (match st with | .While x bs [] _ => chkE M N P lm sc cf c x && chkB lm sc cf b bs | _ => false)
  | .ret e, st => (match st with | .Return (some x) _ => chkE M N P lm sc cf e x | _ => false)
  | .retN, st => (match st with | .Return none _ => true | _ => false)
  | .raise c es, st => (match st with
    | .Raise (some (.Call (.Name x _) (a :: as) [] _)) none _ => (P.cls c).isSome && decide (x = M.cls c) && glb sc x && nmOk x && noStars (a :: as) && chkL M N P lm sc cf es (a :: as)
    | _ => false)
  | .pass, st => (match st with | .Pass _ => true | _ => false)
  | .bad, _ => true
  | .lock _ s, st => chkS lm sc cf s st
def chkB (lm : Bool) (sc : Scope) (cf : Str → Bool) : B → List Stmt → Bool
  | .nil, sts => (match sts with | [] => true | _ => false)
  | .cons s r, sts => (match sts with | st :: sts => chkS lm sc cf s st && chkB lm sc cf r sts | _ => false)
  | .iso b, sts => chkB lm sc cf b sts
end
end
end AH

set_option Elab.async false
set_option linter.all false
set_option maxRecDepth 100000
set_option maxHeartbeats 4000000
/-! AH19: what passes is kept: expressions. -/
namespace AH
open PySem PySem.Spec L2
section
variable {M : Nm} {N : List Str} {Γ : Gm} {C : Cf} {lm : Bool} {k : Nat} {sc : Scope} {cf : Str → Bool} {W : XK} {X : Cx} {pos : Pos}
theorem snd_bad {x : Expr} : Snd X Γ W C .bad x where
  pe := ⟨fun pins s σ H Q I ⟨μ, h, σa, r, rs, o⟩ => o.elim⟩
  pt := ⟨fun pins s σ H Q I ⟨μ, h, σa, r, rs, o⟩ => o.elim⟩
  pw := fun ⟨op, es, pos, e⟩ => by subst e; exact ⟨fun wh pins s σ H Q I ⟨μ, h, σa, r, rs, o⟩ => o.elim⟩
theorem pt_ifx {c a b : Expr} {tc t u : TT} (hc : PT X c tc) (ha : PT X a t) (hb : PT X b u) : PT X (.IfExp c a b pos) (fun σ H Q => tc σ H fun d H1 => if d = true then t σ H1 Q else u σ H1 Q) := by
  refine ⟨fun pins s σ H Q I h => ?_⟩
  show wpAny _ _ (do if ← isTrue c X.env (eval c X.env) then isTrue a X.env (eval a X.env) else isTrue b X.env (eval b X.env)) _ _ s
  refine wpAny_bind (thn (hc.run pins s σ H _ I h) fun d s1 ⟨H1, I1, q1⟩ => ?_)
  cases d with
  | true => exact ha.run pins s1 σ H1 Q I1 q1
  | false => exact hb.run pins s1 σ H1 Q I1 q1
theorem evE_ite {c a b : E} {σ : Sl} {h : AHp} : truthR (evE C (.ite c a b) σ h) = (truthR (evE C c σ h)).bind fun t h1 => if t then truthR (evE C a σ h1) else truthR (evE C b σ h1) := by
  simp only [evE]
  unfold truthR
  rw [Rs.bind_assoc]
  congr 1
  funext t h1
  cases t <;> rfl
theorem s_iteS {c a b : E} {x y z : Expr} (hc : Snd X Γ W C c z) (ha : Snd X Γ W C a x) (hb : Snd X Γ W C b y) : Snd X Γ W C (.ite c a b) (.IfExp z x y pos) where
  pe := s_ite hc ha hb
  pt := PT.imp (pt_ifx hc.pt ha.pt hb.pt) fun σ H Q ⟨μ, h, σa, r, rs, q⟩ => by
    rw [evE_ite] at q
    refine ⟨μ, h, σa, r, rs, (Out.bind (RA := RB) q (.refl _ _)).imp fun t H1 ⟨μ1, h1, b', _, e1, r1, rv, o1⟩ => ?_⟩
    obtain rfl := rv
    cases b' with
    | true => exact ⟨μ1, h1, σa, r1, rs.mono e1.le, Out.shift o1 e1⟩
    | false => exact ⟨μ1, h1, σa, r1, rs.mono e1.le, Out.shift o1 e1⟩
  pw := fun ⟨_, _, _, e⟩ => by cases e
theorem SndB.of {op : BoolOp} {e : E} {es : List Expr} (h : SndB X Γ W C op e es) {pos : Pos} : Snd X Γ W C e (.BoolOp op es pos) := s_boolop h
theorem isNon_ok {e : E} (h : e.isNon = true) : e = .non := by cases e <;> first | rfl | cases h
theorem isNon_no {e : E} (h : (!e.isNon) = true) : e ≠ .non := fun z => by subst z; cases h
theorem L.isNil_ok {e : L} (h : e.isNil = true) : e = .nil := by cases e <;> first | rfl | cases h
mutual
theorem sndE : ∀ (e : E) (lm : Bool) (k : Nat) (sc : Scope) (cf : Str → Bool) (W : XK) (X : Cx), HX M N Γ C lm k sc cf W X → ∀ x : Expr, chkE M N C.P lm sc cf e x = true → Snd X Γ W C e x
  | .var i, lm, k, sc, cf, W, X, hx, x, h => by
    simp only [chkE] at h
    split at h
    · simp only [Bool.and_eq_true, decide_eq_true_eq] at h
      exact snd_of hx rfl (s_var hx h.1.1 h.1.2 h.2)
    · cases h
  | .int i, lm, k, sc, cf, W, X, hx, x, h => by
    simp only [chkE] at h
    split at h
    · simp only [decide_eq_true_eq] at h; subst h
      exact snd_of hx rfl s_int
    · cases h
  | .bl i, lm, k, sc, cf, W, X, hx, x, h => by
    simp only [chkE] at h
    split at h
    · simp only [decide_eq_true_eq] at h; subst h
      exact snd_of hx rfl s_bl
    · cases h
  | .non, lm, k, sc, cf, W, X, hx, x, h => by
    simp only [chkE] at h
    split at h
    · exact snd_of hx rfl s_non
    · cases h
  | .str i, lm, k, sc, cf, W, X, hx, x, h => by
    simp only [chkE] at h
    split at h
    · simp only [decide_eq_true_eq] at h; subst h
      exact snd_of hx rfl s_str
    · cases h
  | .glo c, lm, k, sc, cf, W, X, hx, x, h => by
    simp only [chkE] at h
    split at h
    · simp only [Bool.and_eq_true, decide_eq_true_eq] at h
      obtain ⟨⟨h1, h2⟩, h3⟩ := h
      subst h1
      exact snd_of hx rfl (s_glo hx h2 h3)
    · cases h
  | .bin o a b, lm, k, sc, cf, W, X, hx, x, h => by
    simp only [chkE] at h
    split at h
    · simp only [Bool.and_eq_true, decide_eq_true_eq] at h
      obtain ⟨⟨h1, h2⟩, h3⟩ := h
      subst h1
      exact snd_of hx rfl (s_bin hx (sndE a lm k sc cf W X hx _ h2) (sndE b lm k sc cf W X hx _ h3))
    · cases h
  | .neg a, lm, k, sc, cf, W, X, hx, x, h => by
    simp only [chkE] at h
    split at h
    · exact snd_of hx rfl (s_neg (sndE a lm k sc cf W X hx _ h))
    · cases h
  | .not a, lm, k, sc, cf, W, X, hx, x, h => by
    simp only [chkE] at h
    split at h
    · exact s_not hx (sndE a lm k sc cf W X hx _ h)
    · cases h
  | .and a b, lm, k, sc, cf, W, X, hx, x, h => by
    simp only [chkE] at h
    split at h
    · rw [Bool.and_eq_true] at h
      exact s_boolop (sb_and hx (sndE a lm k sc cf W X hx _ h.1) (sb_one (sndE b lm k sc cf W X hx _ h.2)))
    · rw [Bool.and_eq_true] at h
      exact s_boolop (sb_and hx (sndE a lm k sc cf W X hx _ h.1) (sndR b lm k sc cf W X hx _ _ h.2))
    · cases h
  | .or a b, lm, k, sc, cf, W, X, hx, x, h => by
    simp only [chkE] at h
    split at h
    · rw [Bool.and_eq_true] at h
      exact s_boolop (sb_or hx (sndE a lm k sc cf W X hx _ h.1) (sb_one (sndE b lm k sc cf W X hx _ h.2)))
    · rw [Bool.and_eq_true] at h
      exact s_boolop (sb_or hx (sndE a lm k sc cf W X hx _ h.1) (sndR b lm k sc cf W X hx _ _ h.2))
    · cases h
  | .cmp o a b, lm, k, sc, cf, W, X, hx, x, h => by
    simp only [chkE] at h
    split at h
    · simp only [Bool.and_eq_true, decide_eq_true_eq] at h
      obtain ⟨⟨⟨h1, h2⟩, h3⟩, h4⟩ := h
      subst h1
      exact s_cmp hx h2 (sndE a lm k sc cf W X hx _ h3) (sndE b lm k sc cf W X hx _ h4)
    · cases h
  | .cmp2 o o2 a b c, lm, k, sc, cf, W, X, hx, x, h => by
    simp only [chkE] at h
    split at h
    · simp only [Bool.and_eq_true, decide_eq_true_eq] at h
      obtain ⟨⟨⟨⟨⟨h1, h2⟩, h3⟩, h4⟩, h5⟩, h6⟩ := h
      subst h1 h2
      exact s_cmp2 hx h3 (sndE a lm k sc cf W X hx _ h4) (sndE b lm k sc cf W X hx _ h5) (sndE c lm k sc cf W X hx _ h6)
    · cases h
  | .ite c a b, lm, k, sc, cf, W, X, hx, x, h => by
    simp only [chkE] at h
    split at h
    · simp only [Bool.and_eq_true] at h
      obtain ⟨⟨h1, h2⟩, h3⟩ := h
      exact s_iteS (sndE c lm k sc cf W X hx _ h1) (sndE a lm k sc cf W X hx _ h2) (sndE b lm k sc cf W X hx _ h3)
    · cases h
  | .lst es, lm, k, sc, cf, W, X, hx, x, h => by
    simp only [chkE] at h
    split at h
    · exact snd_of hx rfl (s_lst (sndL es lm k sc cf W X hx _ h))
    · cases h
  | .tup es, lm, k, sc, cf, W, X, hx, x, h => by
    simp only [chkE] at h
    split at h
    · exact snd_of hx rfl (s_tup (sndL es lm k sc cf W X hx _ h))
    · cases h
  | .dct kvs, lm, k, sc, cf, W, X, hx, x, h => by
    simp only [chkE] at h
    split at h
    · have := L.isNil_ok h
      subst this
      exact snd_of hx rfl s_dct0
    · simp only [Bool.and_eq_true, decide_eq_true_eq] at h
      obtain ⟨⟨⟨⟨⟨h1, h2⟩, h3⟩, h4⟩, h5⟩, h6⟩ := h
      exact snd_of hx rfl (s_dct h1 (sndD kvs lm k sc cf W X hx _ _ _ h2) h3 h4 h5 h6)
    · cases h
  | .lc e g it own, lm, k, sc, cf, W, X, hx, x, h => by
    simp only [chkE] at h
    split at h
    · simp only [Bool.and_eq_true, decide_eq_true_eq] at h
      obtain ⟨⟨⟨⟨⟨h1, h2⟩, h3⟩, h4⟩, h5⟩, h6⟩ := h
      subst h1
      exact snd_of hx rfl (s_lc hx h2 h3 h4 (sndI it lm k sc cf W X hx _ _ h5) fun X' hx' => (sndE e _ _ _ _ _ _ hx' _ h6).pe)
    · cases h
  | .lcf e g it c own, lm, k, sc, cf, W, X, hx, x, h => by
    simp only [chkE] at h
    split at h
    · simp only [Bool.and_eq_true, decide_eq_true_eq] at h
      obtain ⟨⟨⟨⟨⟨⟨h1, h2⟩, h3⟩, h4⟩, h5⟩, h7⟩, h6⟩ := h
      subst h1
      exact snd_of hx rfl (s_lcf hx h2 h3 h4 (sndI it lm k sc cf W X hx _ _ h5) (fun X' hx' => (sndE c _ _ _ _ _ _ hx' _ h7).pt) fun X' hx' => (sndE e _ _ _ _ _ _ hx' _ h6).pe)
    · cases h
  | .lc2 _ _ _ _ _ _ _, lm, k, sc, cf, W, X, hx, x, h => by simp only [chkE] at h; cases h
  | .dc _ _ _ _ _, lm, k, sc, cf, W, X, hx, x, h => by simp only [chkE] at h; cases h
  | .sub a i, lm, k, sc, cf, W, X, hx, x, h => by
    simp only [chkE] at h
    split at h
    · simp only [Bool.and_eq_true] at h
      obtain ⟨⟨h1, h2⟩, h3⟩ := h
      exact snd_of hx rfl (s_sub hx h1 (sndE a lm k sc cf W X hx _ h2).pe (sndE i lm k sc cf W X hx _ h3).pe)
    · cases h
  | .sl a lo hi, lm, k, sc, cf, W, X, hx, x, h => by
    simp only [chkE] at h
    split at h
    · rw [Bool.and_eq_true, Bool.and_eq_true] at h
      obtain ⟨⟨h1, h2⟩, h3⟩ := h
      have ha := (sndE a lm k sc cf W X hx _ h1).pe
      split at h2
      · have := isNon_ok h2
        subst this
        split at h3
        · have := isNon_ok h3
          subst this
          exact snd_of hx rfl (s_sl hx ha p_none p_none)
        · rw [Bool.and_eq_true] at h3
          exact snd_of hx rfl (s_sl hx ha p_none (p_some (isNon_no h3.1) (sndE hi lm k sc cf W X hx _ h3.2).pe))
      · rw [Bool.and_eq_true] at h2
        have hl := p_some (isNon_no h2.1) (sndE lo lm k sc cf W X hx _ h2.2).pe
        split at h3
        · have := isNon_ok h3
          subst this
          exact snd_of hx rfl (s_sl hx ha hl p_none)
        · rw [Bool.and_eq_true] at h3
          exact snd_of hx rfl (s_sl hx ha hl (p_some (isNon_no h3.1) (sndE hi lm k sc cf W X hx _ h3.2).pe))
    · cases h
  | .call f es, lm, k, sc, cf, W, X, hx, x, h => by
    simp only [chkE] at h
    split at h
    · simp only [Bool.and_eq_true, decide_eq_true_eq] at h
      obtain ⟨⟨⟨⟨h1, h2⟩, h3⟩, h4⟩, h5⟩ := h
      subst h2
      have := L.isNil_ok h5
      subst this
      exact snd_of hx rfl (s_call0 hx h1 h3 h4)
    · simp only [Bool.and_eq_true, decide_eq_true_eq] at h
      obtain ⟨⟨⟨⟨⟨h1, h2⟩, h3⟩, h4⟩, h5⟩, h6⟩ := h
      subst h2
      exact snd_of hx rfl (s_call hx h1 h3 h4 h5 (sndL es lm k sc cf W X hx _ h6))
    · cases h
  | .callk f es perm, lm, k, sc, cf, W, X, hx, x, h => by
    simp only [chkE] at h
    split at h
    · simp only [Bool.and_eq_true, decide_eq_true_eq] at h
      obtain ⟨⟨⟨⟨h1, h2⟩, h3⟩, h4⟩, h5⟩ := h
      subst h2
      split at h5
      · rename_i ks hk
        simp only [Bool.and_eq_true, decide_eq_true_eq] at h5
        obtain ⟨⟨⟨⟨g1, g2⟩, g3⟩, g4⟩, g5⟩ := h5
        exact snd_of hx rfl (s_callk hx h1 g1 g2 g3 hk h3 h4 (sndK es lm k sc cf W X hx _ g5) (evL_len es _ g4))
      · cases h5
    · cases h
  | .blt b es, lm, k, sc, cf, W, X, hx, x, h => by
    simp only [chkE] at h
    split at h
    · simp only [Bool.and_eq_true, decide_eq_true_eq] at h
      obtain ⟨⟨⟨h1, h2⟩, h3⟩, h4⟩ := h
      subst h1
      exact snd_of hx rfl (s_blt hx h2 h3 (sndL es lm k sc cf W X hx _ h4))
    · cases h
  | .isa e one ts, lm, k, sc, cf, W, X, hx, x, h => by
    simp only [chkE] at h
    split at h
    · rw [Bool.and_eq_true, Bool.and_eq_true, Bool.and_eq_true, Bool.and_eq_true, decide_eq_true_eq] at h
      obtain ⟨⟨⟨⟨h1, h2⟩, h3⟩, h4⟩, h5⟩ := h
      subst h1
      split at h5
      · rw [Bool.and_eq_true, decide_eq_true_eq] at h5
        obtain ⟨h6, h7⟩ := h5
        subst h6
        exact snd_of hx rfl (s_isa1 hx h2 h7 h3 (sndE e lm k sc cf W X hx _ h4).pe)
      · rw [Bool.and_eq_true, decide_eq_true_eq] at h5
        exact snd_of hx rfl (s_isaT hx h2 h5.1 h5.2 h3 (sndE e lm k sc cf W X hx _ h4).pe)
      · cases h5
    · cases h
  | .lstE e, lm, k, sc, cf, W, X, hx, x, h => by
    simp only [chkE] at h
    split at h
    · simp only [Bool.and_eq_true, decide_eq_true_eq] at h
      obtain ⟨⟨⟨h1, h2⟩, h3⟩, h4⟩ := h
      subst h1
      exact snd_of hx rfl (s_lstE hx h2 h3 (sndE e lm k sc cf W X hx _ h4).pe)
    · cases h
  | .tupE e, lm, k, sc, cf, W, X, hx, x, h => by
    simp only [chkE] at h
    split at h
    · simp only [Bool.and_eq_true, decide_eq_true_eq] at h
      obtain ⟨⟨⟨h1, h2⟩, h3⟩, h4⟩ := h
      subst h1
      exact snd_of hx rfl (s_tupE hx h2 h3 (sndE e lm k sc cf W X hx _ h4).pe)
    · cases h
  | .dctE e, lm, k, sc, cf, W, X, hx, x, h => by
    simp only [chkE] at h
    split at h
    · simp only [Bool.and_eq_true, decide_eq_true_eq] at h
      obtain ⟨⟨⟨h1, h2⟩, h3⟩, h4⟩ := h
      subst h1
      exact snd_of hx rfl (s_dctE hx h2 h3 (sndE e lm k sc cf W X hx _ h4).pe)
    · cases h
  | .lstR1 a, lm, k, sc, cf, W, X, hx, x, h => by
    simp only [chkE] at h
    split at h
    · simp only [Bool.and_eq_true, decide_eq_true_eq] at h
      obtain ⟨⟨⟨⟨⟨h1, h2⟩, h3⟩, h4⟩, h5⟩, h6⟩ := h
      subst h1 h3
      exact snd_of hx rfl (s_lstR1 hx h2 h4 h5 (sndE a lm k sc cf W X hx _ h6).pe)
    · cases h
  | .lstR2 a b, lm, k, sc, cf, W, X, hx, x, h => by
    simp only [chkE] at h
    split at h
    · simp only [Bool.and_eq_true, decide_eq_true_eq] at h
      obtain ⟨⟨⟨⟨⟨⟨⟨h1, h2⟩, h3⟩, h4⟩, h5⟩, h6⟩, h7⟩, h8⟩ := h
      subst h1 h3
      exact snd_of hx rfl (s_lstR2 hx h2 h4 h5 h6 (sndE a lm k sc cf W X hx _ h7).pe (sndE b lm k sc cf W X hx _ h8).pe)
    · cases h
  | .lstIt e, lm, k, sc, cf, W, X, hx, x, h => by
    simp only [chkE] at h
    split at h
    · simp only [Bool.and_eq_true, decide_eq_true_eq] at h
      obtain ⟨⟨⟨⟨⟨h1, h2⟩, h3⟩, h4⟩, h5⟩, h6⟩ := h
      subst h1 h3
      exact snd_of hx rfl (s_lstIt hx h2 h4 h5 (sndE e lm k sc cf W X hx _ h6).pe)
    · cases h
  | .bad, lm, k, sc, cf, W, X, hx, x, h => snd_bad
  | .lock i e, lm, k, sc, cf, W, X, hx, x, h => by
    simp only [chkE] at h
    rw [Bool.and_eq_true] at h
    exact snd_of hx h.1 (s_lock (sndE e lm k sc cf W X hx _ h.2).pe)
  | .iso e, lm, k, sc, cf, W, X, hx, x, h => by
    simp only [chkE] at h
    rw [Bool.and_eq_true] at h
    exact snd_of hx h.1 (s_iso (sndE e lm k sc cf W X hx _ h.2).pe)
  | .meth m o es, lm, k, sc, cf, W, X, hx, x, h => by
    simp only [chkE] at h
    split at h
    · simp only [Bool.and_eq_true, decide_eq_true_eq] at h
      obtain ⟨⟨⟨⟨⟨h1, h2⟩, h3⟩, h4⟩, h5⟩, h6⟩ := h
      have := L.isNil_ok h6
      subst this
      exact snd_of hx rfl (s_meth0 hx h1 h2 h3 h4 (sndE o lm k sc cf W X hx _ h5).pe)
    · simp only [Bool.and_eq_true, decide_eq_true_eq] at h
      obtain ⟨⟨⟨⟨⟨⟨⟨h1, h2⟩, h3⟩, h4⟩, h5⟩, h6⟩, h7⟩, h8⟩ := h
      exact snd_of hx rfl (s_meth hx h1 h2 h3 h4 h6 h7 (sndE o lm k sc cf W X hx _ h5).pe (sndL es lm k sc cf W X hx _ h8))
    · cases h
  | .met f e, lm, k, sc, cf, W, X, hx, x, h => by
    simp only [chkE] at h
    split at h
    · simp only [Bool.and_eq_true, decide_eq_true_eq] at h
      obtain ⟨⟨⟨⟨⟨⟨⟨h0, h1⟩, h2⟩, h3⟩, h4⟩, h5⟩, h6⟩, h7⟩ := h
      subst h2
      cases q : C.P.met f with
      | none => rw [q] at h1; cases h1
      | some p =>
        obtain ⟨told, hs⟩ := p
        subst h0
        exact snd_of hx rfl (s_met hx q h3 h4 h5 h6 fun E X' hx' => (sndE e _ _ _ _ _ _ hx' _ h7).pe)
    · cases h
theorem sndR : ∀ (e : E) (lm : Bool) (k : Nat) (sc : Scope) (cf : Str → Bool) (W : XK) (X : Cx), HX M N Γ C lm k sc cf W X → ∀ (op : BoolOp) (xs : List Expr), chkR M N C.P lm sc cf op e xs = true → SndB X Γ W C op e xs
  | .and a b, lm, k, sc, cf, W, X, hx, op, x, h => by
    simp only [chkR] at h
    split at h
    · rw [Bool.and_eq_true] at h
      exact sb_and hx (sndE a lm k sc cf W X hx _ h.1) (sb_one (sndE b lm k sc cf W X hx _ h.2))
    · rw [Bool.and_eq_true] at h
      exact sb_and hx (sndE a lm k sc cf W X hx _ h.1) (sndR b lm k sc cf W X hx _ _ h.2)
    · cases h
  | .or a b, lm, k, sc, cf, W, X, hx, op, x, h => by
    simp only [chkR] at h
    split at h
    · rw [Bool.and_eq_true] at h
      exact sb_or hx (sndE a lm k sc cf W X hx _ h.1) (sb_one (sndE b lm k sc cf W X hx _ h.2))
    · rw [Bool.and_eq_true] at h
      exact sb_or hx (sndE a lm k sc cf W X hx _ h.1) (sndR b lm k sc cf W X hx _ _ h.2)
    · cases h
  | .var _, lm, k, sc, cf, W, X, hx, op, x, h => by simp [chkR] at h
  | .int _, lm, k, sc, cf, W, X, hx, op, x, h => by simp [chkR] at h
  | .bl _, lm, k, sc, cf, W, X, hx, op, x, h => by simp [chkR] at h
  | .non, lm, k, sc, cf, W, X, hx, op, x, h => by simp [chkR] at h
  | .str _, lm, k, sc, cf, W, X, hx, op, x, h => by simp [chkR] at h
  | .glo _, lm, k, sc, cf, W, X, hx, op, x, h => by simp [chkR] at h
  | .bin _ _ _, lm, k, sc, cf, W, X, hx, op, x, h => by simp [chkR] at h
  | .neg _, lm, k, sc, cf, W, X, hx, op, x, h => by simp [chkR] at h
  | .not _, lm, k, sc, cf, W, X, hx, op, x, h => by simp [chkR] at h
  | .cmp _ _ _, lm, k, sc, cf, W, X, hx, op, x, h => by simp [chkR] at h
  | .cmp2 _ _ _ _ _, lm, k, sc, cf, W, X, hx, op, x, h => by simp [chkR] at h
  | .ite _ _ _, lm, k, sc, cf, W, X, hx, op, x, h => by simp [chkR] at h
  | .lst _, lm, k, sc, cf, W, X, hx, op, x, h => by simp [chkR] at h
  | .tup _, lm, k, sc, cf, W, X, hx, op, x, h => by simp [chkR] at h
  | .dct _, lm, k, sc, cf, W, X, hx, op, x, h => by simp [chkR] at h
  | .lc _ _ _ _, lm, k, sc, cf, W, X, hx, op, x, h => by simp [chkR] at h
  | .lcf _ _ _ _ _, lm, k, sc, cf, W, X, hx, op, x, h => by simp [chkR] at h
  | .lc2 _ _ _ _ _ _ _, lm, k, sc, cf, W, X, hx, op, x, h => by simp [chkR] at h
  | .dc _ _ _ _ _, lm, k, sc, cf, W, X, hx, op, x, h => by simp [chkR] at h
  | .sub _ _, lm, k, sc, cf, W, X, hx, op, x, h => by simp [chkR] at h
  | .sl _ _ _, lm, k, sc, cf, W, X, hx, op, x, h => by simp [chkR] at h
  | .call _ _, lm, k, sc, cf, W, X, hx, op, x, h => by simp [chkR] at h
  | .callk _ _ _, lm, k, sc, cf, W, X, hx, op, x, h => by simp [chkR] at h
  | .blt _ _, lm, k, sc, cf, W, X, hx, op, x, h => by simp [chkR] at h
  | .isa _ _ _, lm, k, sc, cf, W, X, hx, op, x, h => by simp [chkR] at h
  | .lstE _, lm, k, sc, cf, W, X, hx, op, x, h => by simp [chkR] at h
  | .lstR1 _, lm, k, sc, cf, W, X, hx, op, x, h => by simp [chkR] at h
  | .lstR2 _ _, lm, k, sc, cf, W, X, hx, op, x, h => by simp [chkR] at h
  | .lstIt _, lm, k, sc, cf, W, X, hx, op, x, h => by simp [chkR] at h
  | .tupE _, lm, k, sc, cf, W, X, hx, op, x, h => by simp [chkR] at h
  | .dctE _, lm, k, sc, cf, W, X, hx, op, x, h => by simp [chkR] at h
  | .bad, lm, k, sc, cf, W, X, hx, op, x, h => by simp [chkR] at h
  | .lock _ _, lm, k, sc, cf, W, X, hx, op, x, h => by simp [chkR] at h
  | .iso _, lm, k, sc, cf, W, X, hx, op, x, h => by simp [chkR] at h
  | .meth _ _ _, lm, k, sc, cf, W, X, hx, op, x, h => by simp [chkR] at h
  | .met _ _, lm, k, sc, cf, W, X, hx, op, x, h => by simp [chkR] at h
theorem sndL : ∀ (e : L) (lm : Bool) (k : Nat) (sc : Scope) (cf : Str → Bool) (W : XK) (X : Cx), HX M N Γ C lm k sc cf W X → ∀ xs : List Expr, chkL M N C.P lm sc cf e xs = true → PA X xs (tL Γ W C e)
  | .nil, lm, k, sc, cf, W, X, hx, xs, h => by
    simp only [chkL] at h
    split at h
    · exact l_nil
    · cases h
  | .cons e r, lm, k, sc, cf, W, X, hx, xs, h => by
    simp only [chkL] at h
    split at h
    · simp only [Bool.and_eq_true] at h
      exact l_cons h.1.1 (sndE e lm k sc cf W X hx _ h.1.2).pe (sndL r lm k sc cf W X hx _ h.2)
    · cases h
  | .star _ _, lm, k, sc, cf, W, X, hx, xs, h => by simp only [chkL] at h; cases h
theorem sndK : ∀ (e : L) (lm : Bool) (k : Nat) (sc : Scope) (cf : Str → Bool) (W : XK) (X : Cx), HX M N Γ C lm k sc cf W X → ∀ xs : List Keyword, chkK M N C.P lm sc cf e xs = true → PK X xs (tL Γ W C e)
  | .nil, lm, k, sc, cf, W, X, hx, xs, h => by
    simp only [chkK] at h
    split at h
    · exact k_nil
    · cases h
  | .cons e r, lm, k, sc, cf, W, X, hx, xs, h => by
    simp only [chkK] at h
    split at h
    · simp only [Bool.and_eq_true] at h
      exact k_cons (sndE e lm k sc cf W X hx _ h.1).pe (sndK r lm k sc cf W X hx _ h.2)
    · cases h
  | .star _ _, lm, k, sc, cf, W, X, hx, xs, h => by simp only [chkK] at h; cases h
theorem sndD : ∀ (e : L) (lm : Bool) (k : Nat) (sc : Scope) (cf : Str → Bool) (W : XK) (X : Cx), HX M N Γ C lm k sc cf W X → ∀ (ks : List (Option Expr)) (vs : List Expr) (pos : Pos), chkD M N C.P lm sc cf e ks vs = true → PPs X pos ks vs (trsOf Γ W C e)
  | .nil, lm, k, sc, cf, W, X, hx, ks, vs, pos, h => by
    simp only [chkD] at h
    split at h
    · exact pps_nil
    · cases h
  | .cons e (.cons e2 r), lm, k, sc, cf, W, X, hx, ks, vs, pos, h => by
    simp only [chkD] at h
    split at h
    · simp only [Bool.and_eq_true] at h
      exact pps_cons (sndE e lm k sc cf W X hx _ h.1.1).pe (sndE e2 lm k sc cf W X hx _ h.1.2).pe (sndD r lm k sc cf W X hx _ _ _ h.2)
    · cases h
  | .cons e .nil, lm, k, sc, cf, W, X, hx, ks, vs, pos, h => by simp [chkD] at h
  | .cons e (.star _ _), lm, k, sc, cf, W, X, hx, ks, vs, pos, h => by simp [chkD] at h
  | .star _ _, lm, k, sc, cf, W, X, hx, ks, vs, pos, h => by simp [chkD] at h
theorem sndI : ∀ (e : I) (lm : Bool) (k : Nat) (sc : Scope) (cf : Str → Bool) (W : XK) (X : Cx), HX M N Γ C lm k sc cf W X → ∀ (tg x : Expr), chkI M N C.P lm sc cf e tg x = true → PI X tg x (tI Γ W C e)
  | .seq e, lm, k, sc, cf, W, X, hx, tg, x, h => by
    simp only [chkI] at h
    exact i_seq hx (sndE e lm k sc cf W X hx _ h).pe
  | .rng1 a, lm, k, sc, cf, W, X, hx, tg, x, h => by
    simp only [chkI] at h
    split at h
    · simp only [Bool.and_eq_true, decide_eq_true_eq] at h
      obtain ⟨⟨⟨h1, h2⟩, h3⟩, h4⟩ := h
      subst h1
      exact i_rng1 hx h2 h3 (sndE a lm k sc cf W X hx _ h4).pe
    · cases h
  | .rng2 a b, lm, k, sc, cf, W, X, hx, tg, x, h => by
    simp only [chkI] at h
    split at h
    · simp only [Bool.and_eq_true, decide_eq_true_eq] at h
      obtain ⟨⟨⟨⟨⟨h1, h2⟩, h3⟩, h4⟩, h5⟩, h6⟩ := h
      subst h1
      exact i_rng2 hx h2 h3 h4 (sndE a lm k sc cf W X hx _ h5).pe (sndE b lm k sc cf W X hx _ h6).pe
    · cases h
  | .rng3 _ _ _, lm, k, sc, cf, W, X, hx, tg, x, h => by simp only [chkI] at h; cases h
  | .enum e, lm, k, sc, cf, W, X, hx, tg, x, h => by
    simp only [chkI] at h
    split at h
    · simp only [Bool.and_eq_true, decide_eq_true_eq] at h
      obtain ⟨⟨⟨h1, h2⟩, h3⟩, h4⟩ := h
      subst h1
      exact i_enum hx h2 h3 (sndE e lm k sc cf W X hx _ h4).pe
    · cases h
  | .enumS e s, lm, k, sc, cf, W, X, hx, tg, x, h => by
    simp only [chkI] at h
    split at h
    · simp only [Bool.and_eq_true, decide_eq_true_eq] at h
      obtain ⟨⟨⟨⟨⟨h1, h2⟩, h3⟩, h4⟩, h5⟩, h6⟩ := h
      subst h1
      exact i_enumS hx h2 h3 h4 (sndE e lm k sc cf W X hx _ h5).pe (sndE s lm k sc cf W X hx _ h6).pe
    · cases h
  | .zip a b, lm, k, sc, cf, W, X, hx, tg, x, h => by
    simp only [chkI] at h
    split at h
    · simp only [Bool.and_eq_true, decide_eq_true_eq] at h
      obtain ⟨⟨⟨⟨⟨h1, h2⟩, h3⟩, h4⟩, h5⟩, h6⟩ := h
      subst h1
      exact i_zip hx h2 h3 h4 (sndE a lm k sc cf W X hx _ h5).pe (sndE b lm k sc cf W X hx _ h6).pe
    · cases h
  | .keys e, lm, k, sc, cf, W, X, hx, tg, x, h => by
    simp only [chkI] at h
    exact i_keys hx (sndE e lm k sc cf W X hx _ h).pe
  | .vals e, lm, k, sc, cf, W, X, hx, tg, x, h => by
    simp only [chkI] at h
    split at h
    · simp only [Bool.and_eq_true, decide_eq_true_eq] at h
      obtain ⟨⟨⟨h1, h2⟩, h3⟩, h4⟩ := h
      subst h1
      exact i_vals hx h2 h3 (sndE e lm k sc cf W X hx _ h4).pe
    · cases h
  | .items e, lm, k, sc, cf, W, X, hx, tg, x, h => by
    simp only [chkI] at h
    split at h
    · simp only [Bool.and_eq_true, decide_eq_true_eq] at h
      obtain ⟨⟨⟨h1, h2⟩, h3⟩, h4⟩ := h
      subst h1
      exact i_items hx h2 h3 (sndE e lm k sc cf W X hx _ h4).pe
    · cases h
  | .bad, lm, k, sc, cf, W, X, hx, tg, x, h => ⟨fun pins s σ H R I ⟨μ, h, σa, r, rs, o⟩ => o.elim⟩
end
end
end AH

set_option Elab.async false
set_option linter.all false
set_option maxRecDepth 100000
set_option maxHeartbeats 4000000
/-! AH20: what passes is kept: statements, defs. -/
namespace AH
open PySem PySem.Spec L2
section
variable {M : Nm} {N : List Str} {Γ : Gm} {C : Cf} {lm : Bool} {k : Nat} {sc : Scope} {cf : Str → Bool} {W : XK} {X : Cx} {pos : Pos}
/-- name = a comprehension whose stores are swapped -/
theorem t_swap {i : Nat} {e : E} {x : Expr} {y : Str} {p : Pos} (hx : HX M N Γ C lm k sc cf W X) (he : chkE M N C.P lm sc cf e x = true) (hs : swapC N sc i y p x = true) (hi : N[i]? = some y) (hb : e.isLc = true) : PS X (.Assign [.Name y p] x pos) (tSt Γ W C (.asg i e)) := by
  cases e with
  | lc e g it own =>
    simp only [chkE] at he
    split at he
    · simp only [Bool.and_eq_true, decide_eq_true_eq] at he
      obtain ⟨⟨⟨⟨⟨h1, h2⟩, h3⟩, h4⟩, h5⟩, h6⟩ := he
      subst h1
      exact PS.imp (t_lc hx hs h2 h3 h4 (sndI it lm k sc cf W X hx _ _ h5) fun X' hx' => (sndE e _ _ _ _ _ _ hx' _ h6).pe) fun D σ H q => asg_go q
    · cases he
  | lcf e g it c own =>
    simp only [chkE] at he
    split at he
    · simp only [Bool.and_eq_true, decide_eq_true_eq] at he
      obtain ⟨⟨⟨⟨⟨⟨h1, h2⟩, h3⟩, h4⟩, h5⟩, h7⟩, h6⟩ := he
      subst h1
      exact PS.imp (t_lcf hx hs h2 h3 h4 (sndI it lm k sc cf W X hx _ _ h5) (fun X' hx' => (sndE c _ _ _ _ _ _ hx' _ h7).pt) fun X' hx' => (sndE e _ _ _ _ _ _ hx' _ h6).pe) fun D σ H q => asg_go q
    · cases he
  | _ => cases hb
mutual
theorem sndS : ∀ (s : S) (lm : Bool) (k : Nat) (sc : Scope) (cf : Str → Bool) (W : XK) (X : Cx), HX M N Γ C lm k sc cf W X → ∀ st : Stmt, chkS M N C.P lm sc cf s st = true → PS X st (tSt Γ W C s)
  | .asg i e, lm, k, sc, cf, W, X, hx, st, h => by
    simp only [chkS] at h
    split at h
    · rw [Bool.and_eq_true, Bool.and_eq_true, Bool.or_eq_true, decide_eq_true_eq] at h
      obtain ⟨⟨h1, h2⟩, h3⟩ := h
      rcases h3 with h3 | h3
      · rw [Bool.and_eq_true] at h3
        exact t_asg hx h1 h3.1 h3.2 (sndE e lm k sc cf W X hx _ h2).pe
      · rw [Bool.and_eq_true] at h3
        exact t_swap hx h2 h3.2 h1 h3.1
    · cases h
  | .asgT gs e, lm, k, sc, cf, W, X, hx, st, h => by
    simp only [chkS] at h
    split at h
    · simp only [Bool.and_eq_true] at h
      exact t_asgT hx h.1.1 h.1.2 (sndE e lm k sc cf W X hx _ h.2).pe
    · cases h
  | .asgP is es, lm, k, sc, cf, W, X, hx, st, h => by
    simp only [chkS] at h
    split at h
    · simp only [Bool.and_eq_true, decide_eq_true_eq] at h
      obtain ⟨⟨⟨⟨⟨⟨h1, h2⟩, h3⟩, h4⟩, h5⟩, h6⟩, h7⟩ := h
      exact t_asgP2 hx h1 h2 h3 h4 h5 h6 (sndL es lm k sc cf W X hx _ h7)
    · simp only [Bool.and_eq_true, decide_eq_true_eq] at h
      obtain ⟨⟨⟨⟨⟨⟨⟨⟨⟨⟨h1, h2⟩, h3⟩, h4⟩, h5⟩, h6⟩, h7⟩, h8⟩, h9⟩, h10⟩, h11⟩ := h
      exact t_asgP3 hx h1 h2 h3 h4 h5 h6 h7 h8 h9 h10 (sndL es lm k sc cf W X hx _ h11)
    · cases h
  | .setix o i e, lm, k, sc, cf, W, X, hx, st, h => by
    simp only [chkS] at h
    split at h
    · simp only [Bool.and_eq_true] at h
      obtain ⟨⟨⟨h1, h2⟩, h3⟩, h4⟩ := h
      exact t_setix hx h1 (sndE o lm k sc cf W X hx _ h2).pe (sndE i lm k sc cf W X hx _ h3).pe (sndE e lm k sc cf W X hx _ h4).pe
    · cases h
  | .augN i op e, lm, k, sc, cf, W, X, hx, st, h => by
    simp only [chkS] at h
    split at h
    · simp only [Bool.and_eq_true, decide_eq_true_eq] at h
      obtain ⟨⟨⟨h1, h2⟩, h3⟩, h4⟩ := h
      subst h1
      exact t_augN hx h2 h3 (sndE e lm k sc cf W X hx _ h4).pe
    · cases h
  | .augIx o i op e, lm, k, sc, cf, W, X, hx, st, h => by
    simp only [chkS] at h
    split at h
    · simp only [Bool.and_eq_true, decide_eq_true_eq] at h
      obtain ⟨⟨⟨⟨h1, h2⟩, h3⟩, h4⟩, h5⟩ := h
      subst h1
      exact t_augIx hx h2 (sndE o lm k sc cf W X hx _ h3).pe (sndE i lm k sc cf W X hx _ h4).pe (sndE e lm k sc cf W X hx _ h5).pe
    · cases h
  | .ex e, lm, k, sc, cf, W, X, hx, st, h => by
    simp only [chkS] at h
    split at h
    · rw [Bool.and_eq_true] at h
      exact t_ex h.1 (sndE e lm k sc cf W X hx _ h.2).pe
    · cases h
  | .ite c a b, lm, k, sc, cf, W, X, hx, st, h => by
    simp only [chkS] at h
    split at h
    · simp only [Bool.and_eq_true] at h
      exact t_ite (sndE c lm k sc cf W X hx _ h.1.1).pt (sndB a lm k sc cf W X hx _ h.1.2) (sndB b lm k sc cf W X hx _ h.2)
    · cases h
  | .forS g it b, lm, k, sc, cf, W, X, hx, st, h => by
    simp only [chkS] at h
    split at h
    · simp only [Bool.and_eq_true] at h
      obtain ⟨⟨⟨h1, h2⟩, h3⟩, h4⟩ := h
      exact t_for hx h1 h2 (sndI it lm k sc cf W X hx _ _ h3) (sndB b lm k sc cf W X hx _ h4)
    · cases h
  | .whl c b, lm, k, sc, cf, W, X, hx, st, h => by
    simp only [chkS] at h
    split at h
    · rw [Bool.and_eq_true] at h
      exact t_whl hx (sndE c lm k sc cf W X hx _ h.1).pt (sndB b lm k sc cf W X hx _ h.2)
    · cases h
  | .ret e, lm, k, sc, cf, W, X, hx, st, h => by
    simp only [chkS] at h
    split at h
    · exact t_ret (sndE e lm k sc cf W X hx _ h).pe
    · cases h
  | .retN, lm, k, sc, cf, W, X, hx, st, h => by
    simp only [chkS] at h
    split at h
    · exact t_retN
    · cases h
  | .raise c es, lm, k, sc, cf, W, X, hx, st, h => by
    simp only [chkS] at h
    split at h
    · simp only [Bool.and_eq_true, decide_eq_true_eq] at h
      obtain ⟨⟨⟨⟨⟨h1, h2⟩, h3⟩, h4⟩, h5⟩, h6⟩ := h
      subst h2
      cases q : C.P.cls c with
      | none => rw [q] at h1; cases h1
      | some fs =>
        obtain ⟨c1, c2, _⟩ := hx.cl c fs q
        exact t_raise hx (hx.room.mono hx.k3) q c1 c2 h3 h4 h5 (sndL es lm k sc cf W X hx _ h6)
    · cases h
  | .pass, lm, k, sc, cf, W, X, hx, st, h => by
    simp only [chkS] at h
    split at h
    · exact t_pass
    · cases h
  | .bad, lm, k, sc, cf, W, X, hx, st, h => ⟨fun pins s σ H Q I ⟨μ, h, σa, r, rs, o⟩ => o.elim⟩
  | .lock i s, lm, k, sc, cf, W, X, hx, st, h => by
    simp only [chkS] at h
    exact t_lock (sndS s lm k sc cf W X hx _ h)
theorem sndB : ∀ (b : B) (lm : Bool) (k : Nat) (sc : Scope) (cf : Str → Bool) (W : XK) (X : Cx), HX M N Γ C lm k sc cf W X → ∀ sts : List Stmt, chkB M N C.P lm sc cf b sts = true → PSs X sts (tB Γ W C b)
  | .nil, lm, k, sc, cf, W, X, hx, sts, h => by
    simp only [chkB] at h
    split at h
    · exact b_nil
    · cases h
  | .cons s r, lm, k, sc, cf, W, X, hx, sts, h => by
    simp only [chkB] at h
    split at h
    · rw [Bool.and_eq_true] at h
      exact b_cons (sndS s lm k sc cf W X hx _ h.1) (sndB r lm k sc cf W X hx _ h.2)
    · cases h
  | .iso b, lm, k, sc, cf, W, X, hx, sts, h => by
    simp only [chkB] at h
    exact b_iso (sndB b lm k sc cf W X hx _ h)
end
end
end AH

set_option Elab.async false
set_option linter.all false
set_option maxRecDepth 100000
set_option maxHeartbeats 400000
/-! AH21: defs keep what AH's function gives. -/
namespace AH
open PySem PySem.Spec PyProof.Rows L2
def lv (d : Nat) : Nat := 3 * d + 3
/-- what is known of a def -/
def FDat (M : Nm) (P : Prog) (K : PySem.W.Frag) (mg : Str → Option Value) (base : Heap) (Γ : Gm) (f : Nat) (fa : Addr) (fd : FuncData) : Prop :=
  ∃ (n kk : Nat) (b : B) (qual : Str) (pa : Arguments) (body : List Stmt) (sc : Scope) (Nf : List Str) (lmf : Bool),
    P.body f = some (n, kk, b) ∧ mg (M.fn f) = some (.ref fa) ∧ FunD K (M.fn f) qual pa body sc [] [] fa fd ∧ FnScope Nf (M.ps f) sc ∧ Nf.length = n ∧ (M.ps f).length = kk ∧ Binds K fd (M.ps f) [] ∧
    (∀ p ∈ M.kws f, ∀ (s : Shared) (ws : List Value), ws.length = p.1.length → BindsTo s fd ⟨[], p.1.zip ws⟩ ((M.ps f).zip (permV ws p.2))) ∧ chkB M Nf P lmf sc (fun _ => true) b body = true ∧
    (lmf = true → ∃ c Pt, fd.code = .ref c ∧ LamX.TabB base mg c Pt ∧ (Pt, (qual ++ ".<locals>.") ++ "<lambda>") ∈ Γ.T ∧ ∀ p ∈ Γ.T, p.1 = Pt → p.2 = (qual ++ ".<locals>.") ++ "<lambda>")
/-- what is known of the module -/
structure GX (M : Nm) (P : Prog) (prog : Program) (w : World) (K : PySem.W.Frag) (mg : Str → Option Value) (base : Heap) (Γ : Gm) : Prop where
  hK : Γ.K = K
  bl : ∀ x ∈ bNames, mg x = none
  cl : ∀ c fs, P.cls c = some fs → fs.length ≤ 900 ∧ ClsOk prog w K mg base (Γ.nmC c) (M.cls c) (fs.map Γ.nmF) ∧ ∀ f ∈ fs, ∀ g ∈ fs, Γ.nmF f = Γ.nmF g → f = g
  xm : ∀ c c', (P.cls c).isSome = true → (P.cls c').isSome = true → PySem.W.exmOne K (.ref (Γ.nmC c)) (.ref (Γ.nmC c')) = some (c == c')
  mt : ∀ f told hs, P.met f = some (told, hs) → (∀ q ∈ hs, (P.cls q.1).isSome = true) ∧ MetOk prog w K mg base Γ (M.fn f) told hs
  con : ∀ x v, P.con x = some v → ∃ u z, mg (M.con x) = some u ∧ RelV z u ∧ RV (fun _ => none) v z
  fd : ∀ f, M.has f = true → ∃ fa fd, FDat M P K mg base Γ f fa fd
theorem start_rel {μ : Mu} {args : List AV} {vs : List V} {N : List Str} (r : RVs μ args vs) : RS μ (start N.length args) (L2.start N vs) := by
  have hl := Pd.length r
  refine ⟨by unfold start L2.start; simp [hl], fun i v h => ?_⟩
  unfold start at h
  unfold L2.start
  have hi : i < args.length := by
    by_cases hi : i < args.length
    · exact hi
    · rw [List.getElem?_append_right (by simpa using hi), List.getElem?_replicate] at h
      split at h <;> cases h
  rw [List.getElem?_append_left (by simpa using hi), List.getElem?_map] at h
  rw [List.getElem?_append_left (by simpa [← hl] using hi), List.getElem?_map]
  cases q : args[i]? with
  | none => rw [q] at h; cases h
  | some u =>
    rw [q] at h
    cases h
    obtain ⟨x, h1, h2⟩ := Pd.get r q
    exact ⟨x, by rw [h1]; rfl, h2⟩
theorem fin_ok {Γ : Gm} {W : XK} {μ : Mu} {H : Hp} {r : SRs} {Q : VK} (o : Out Γ W μ H r.fin RVh Q) : OutS Γ W μ H r { nx := fun _ H' => Q .non H', rt := Q } := by
  cases r with
  | nx σ h1 => exact fun μ1 H1 σ1 e r1 _ => o μ1 H1 .non e r1 rfl
  | rt v h1 => exact fun μ1 H1 x e r1 rv => o μ1 H1 x e r1 rv
  | ex c fs h1 => exact o
  | no => exact o
theorem fn_lv0 {prog : Program} {w : World} {K : PySem.W.Frag} {mg : Str → Option Value} {base : Heap} {CX : CXT} {k : Nat} {f : Addr} {fd : FuncData} {ps : List Str} {sp : Sp} (h1 : ∀ vs H Q E, sp vs H Q E → False) : FnOk prog w K mg base CX k f fd ps sp := ⟨fun vs H Q E h => (h1 vs H Q E h).elim, fun A outer s H args us vs Q E hr e0 hb rv h => (h1 vs H Q E h).elim⟩
theorem run_len {M : Nm} {P : Prog} {K : PySem.W.Frag} {mg : Str → Option Value} {base : Heap} {Γ : Gm} {F d f : Nat} {fa : Addr} {fd : FuncData} (D : FDat M P K mg base Γ f fa fd) (args : List AV) (h : AHp) (hn : run P F d f args h ≠ .no) : args.length = (M.ps f).length := by
  obtain ⟨n, kk, b, qual, pa, body, sc, Nf, lmf, p1, p2, p3, p4, p5, p6, p7, p8, p9, p10⟩ := D
  cases d with
  | zero => exact absurd rfl hn
  | succ d =>
    unfold run runB at hn
    simp only [p1] at hn
    split at hn
    · rename_i e; rw [e, p6]
    · exact absurd rfl hn
theorem lam_at {base : Heap} {mg : Str → Option Value} {Γ : Gm} {cdv : Value} {qual : Str} {env : Env} (h1 : env.code = cdv) (h2 : env.qual = qual) (hl : ∃ c Pt, cdv = .ref c ∧ LamX.TabB base mg c Pt ∧ (Pt, qual ++ "<lambda>") ∈ Γ.T ∧ ∀ p ∈ Γ.T, p.1 = Pt → p.2 = qual ++ "<lambda>") :
    ∃ c P, LamX.TabB base mg c P ∧ env.code = .ref c ∧ (P, env.qual ++ "<lambda>") ∈ Γ.T ∧ (∀ p ∈ Γ.T, p.1 = P → p.2 = env.qual ++ "<lambda>") := by
  subst h1 h2
  obtain ⟨c, Pt, e1, e2, e3, e4⟩ := hl
  exact ⟨c, Pt, e2, e1, e3, e4⟩
theorem body_hx {M : Nm} {P : Prog} {prog : Program} {w : World} {K : PySem.W.Frag} {mg : Str → Option Value} {base : Heap} {Γ : Gm} {F d : Nat} (G : GX M P prog w K mg base Γ) (ih : ∀ f fa fd, FDat M P K mg base Γ f fa fd → FnOk prog w K mg base (L2.CX prog w) (lv d) fa fd (M.ps f) (spF Γ (run P F d f) (M.ps f).length))
    {Nf : List Str} {qual : Str} {sc : Scope} {fa : Addr} {cdv : Value} {A : Around} {outer : List Env} {s : Shared} {H : Hp} {E : XK} {lmf : Bool} (nd : Nf.Nodup) (hr : Room (lv d + 2) (A.deeper (envOfC qual sc s.heap.objs.size fa cdv)))
    (hl : lmf = true → ∃ c Pt, cdv = .ref c ∧ LamX.TabB base mg c Pt ∧ (Pt, (qual ++ ".<locals>.") ++ "<lambda>") ∈ Γ.T ∧ ∀ p ∈ Γ.T, p.1 = Pt → p.2 = (qual ++ ".<locals>.") ++ "<lambda>") :
    HX M Nf Γ ⟨P, run P F d, F⟩ lmf (lv d) sc (fun _ => true) E (cxOf (L2.CX prog w) prog w K mg base Nf qual sc fa cdv A outer s H E) where
  fnc := fun x _ => rfl
  hN := rfl
  nd := nd
  sc := rfl
  K := G.hK.symm
  calm := rfl
  room := hr.mono (by omega)
  tk := takes_of rfl rfl rfl rfl
  ps := passes_of rfl
  fn := fun g hg => by
    obtain ⟨fa', fd', D⟩ := G.fd g hg
    have D' := D
    obtain ⟨n', kk', b', qual', pa', body', sc', Nf', lmf', q1, q2, q3, q4, q5, q6, q7, q8, q9, q10⟩ := D'
    exact ⟨fun as h' hn => run_len D as h' hn, fa', fd', q2, q3.kp, q7, ih g fa' fd' D, q8⟩
  bl := G.bl
  k3 := by unfold lv; omega
  cl := G.cl
  xm := G.xm
  mt := G.mt
  lam := fun z => ⟨hr, lam_at (base := base) (mg := mg) (Γ := Γ) (qual := qual ++ ".<locals>.") (cdv := cdv) (env := envOfC qual sc s.heap.objs.size fa cdv) rfl rfl (hl z)⟩
  con := G.con
theorem fn_step {M : Nm} {P : Prog} {prog : Program} {w : World} {K : PySem.W.Frag} {mg : Str → Option Value} {base : Heap} {Γ : Gm} {F d : Nat} (G : GX M P prog w K mg base Γ) (ih : ∀ f fa fd, FDat M P K mg base Γ f fa fd → FnOk prog w K mg base (L2.CX prog w) (lv d) fa fd (M.ps f) (spF Γ (run P F d f) (M.ps f).length))
    (f : Nat) (fa : Addr) (fd : FuncData) (D : FDat M P K mg base Γ f fa fd) : FnOk prog w K mg base (L2.CX prog w) ((lv d + 2) + 1) fa fd (M.ps f) (spF Γ (run P F (d + 1) f) (M.ps f).length) := by
  obtain ⟨n, kk, b, qual, pa, body, sc, Nf, lmf, p1, p2, p3, p4, p5, p6, p7, p8, p9, p10⟩ := D
  obtain ⟨oc, od, dV, kV, doc, pm, an, cdv, ct, osl, e, lk, hcd, _, _⟩ := p3.ex
  subst e
  refine fn_of lk hcd p4 (fun vs H Q E h => h.1) fun A outer s H vs Q E hr ⟨hl, μ, h, args, rl, ra, o⟩ => ?_
  refine ⟨_, sndB b lmf (lv d) sc (fun _ => true) E _ (body_hx G ih p4.nd hr p10) body p9, μ, h, start n args, rl, by rw [← p5]; exact start_rel ra, fin_ok ?_⟩
  have e1 : run P F (d + 1) f args h = runB ⟨P, run P F d, F⟩ f args h := rfl
  rw [e1] at o
  unfold runB at o
  simp only [p1] at o
  split at o
  · exact o
  · exact o.elim
theorem fn_lv {M : Nm} {P : Prog} {prog : Program} {w : World} {K : PySem.W.Frag} {mg : Str → Option Value} {base : Heap} {Γ : Gm} {F : Nat} (G : GX M P prog w K mg base Γ) (d : Nat) : ∀ f fa fd, FDat M P K mg base Γ f fa fd → FnOk prog w K mg base (L2.CX prog w) (lv d) fa fd (M.ps f) (spF Γ (run P F d f) (M.ps f).length) := by
  induction d with
  | zero => exact fun f fa fd _ => fn_lv0 fun vs H Q E ⟨_, μ, h, as, r, ra, o⟩ => o
  | succ d ih =>
    have e : lv (d + 1) = (lv d + 2) + 1 := by unfold lv; omega
    rw [e]
    exact fn_step G ih
end AH

set_option Elab.async false
set_option linter.all false
set_option maxRecDepth 100000
set_option maxHeartbeats 400000
/-! AH22: plain parameters are bound. -/
namespace AH
open PySem PySem.Spec PyProof.Rows L2
theorem zip_look {n : Str} {v : Value} : ∀ {ps : List Str} {us : List Value}, ps.Nodup → (n, v) ∈ ps.zip us → (ps.zip us).lookup n = some v
  | [], us, _, h => by cases h
  | p :: ps, [], _, h => by cases h
  | p :: ps, u :: us, nd, h => by
    rw [List.nodup_cons] at nd
    rw [List.zip_cons_cons] at h ⊢
    rcases List.mem_cons.mp h with e | e
    · cases e; rw [List.lookup_cons, beq_self_eq_true]
    · have : (n == p) = false := by
        rw [beq_eq_false_iff_ne]
        intro z
        subst z
        exact nd.1 (List.of_mem_zip e).1
      rw [List.lookup_cons, this]
      exact zip_look nd.2 e
theorem zip_filter : ∀ {ps : List Str} {us : List Value} {qs : List Str} {ws : List Value}, (∀ n v, (n, v) ∈ qs.zip ws → (ps.zip us).lookup n = some v) → qs.length = ws.length → qs.filterMap (fun n => ((ps.zip us).lookup n).map (n, ·)) = qs.zip ws
  | ps, us, [], ws, _, _ => by simp
  | ps, us, q :: qs, [], _, h => by cases h
  | ps, us, q :: qs, w :: ws, hh, h => by
    rw [List.filterMap_cons]
    rw [hh q w (by simp)]
    simp only [Option.map_some]
    rw [zip_filter (fun n v m => hh n v (by rw [List.zip_cons_cons]; exact List.mem_cons_of_mem _ m)) (by simpa using h), List.zip_cons_cons]
theorem zip_some {ps : List Str} {us : List Value} (nd : ps.Nodup) (hl : us.length = ps.length) {n : Str} (hn : n ∈ ps) : ((ps.zip us).lookup n).isNone = false := by
  obtain ⟨i, hi, e⟩ := List.mem_iff_getElem.mp hn
  have : (n, us[i]'(by omega)) ∈ ps.zip us := by
    rw [List.mem_iff_getElem]
    exact ⟨i, by simp [hl, hi], by simp [e]⟩
  rw [zip_look nd this]; rfl
theorem bind_plain (x qual : Str) (args : List Arg) (body : List Stmt) (sc : Scope) (kV doc pm : Value) (an : Option Addr) (cdv ct : Value) (us : List Value) (nd : (args.map (·.arg)).Nodup) (hl : us.length = (args.map (·.arg)).length) :
    bindArgs (PySem.W.fnOf x qual ⟨[], args, none, [], [], none, []⟩ body sc .none kV doc pm an cdv ct) ⟨us, []⟩ = pure ((args.map (·.arg)).zip us) := by
  have hf : ((args.map (·.arg)).filter fun n => (((args.map (·.arg)).zip us).lookup n).isNone) = [] := by
    rw [List.filter_eq_nil_iff]
    intro n hn
    rw [zip_some nd hl hn]; simp
  have hz : (args.map (·.arg)).filterMap (fun n => (((args.map (·.arg)).zip us).lookup n).map (n, ·)) = (args.map (·.arg)).zip us := zip_filter (fun n v m => zip_look nd m) hl.symm
  unfold bindArgs PySem.W.fnOf
  simp only [List.map_nil, List.nil_append, List.append_nil]
  generalize args.map (·.arg) = ps at *
  have hs : seqItems? Value.none = pure none := rfl
  simp [hs, hl, hf, hz]
theorem forIn_kw {ps : List Str} {body : Str × Value → List (Str × Value) × List (Str × Value) → Sem (ForInStep (List (Str × Value) × List (Str × Value)))} (hb : ∀ x acc, ps.contains x.1 = true → (List.lookup x.1 acc).isSome = false → body x (acc, []) = pure (ForInStep.yield (acc ++ [(x.1, x.2)], []))) :
    ∀ (l acc : List (Str × Value)), (∀ p ∈ l, ps.contains p.1 = true) → (acc.map (·.1) ++ l.map (·.1)).Nodup → forIn l (acc, ([] : List (Str × Value))) body = pure (acc ++ l, [])
  | [], acc, _, _ => by simp
  | p :: l, acc, hc, nd => by
    rw [List.forIn_cons, hb p acc (hc p (by simp)) ?_]
    · rw [pure_bind]
      show forIn l (acc ++ [(p.1, p.2)], []) body = _
      rw [forIn_kw hb l (acc ++ [(p.1, p.2)]) (fun q hq => hc q (by simp [hq])) (by simpa using nd)]
      simp
    · cases q : List.lookup p.1 acc with
      | none => rfl
      | some v =>
        have : p.1 ∈ acc.map (·.1) := List.mem_map.mpr ⟨_, PySem.mem_of_lookup q, rfl⟩
        rw [List.nodup_append] at nd
        exact absurd rfl (nd.2.2 p.1 this p.1 (by simp))
theorem perm_zip : ∀ {perm : List Nat} {ks : List Str} {ws : List Value}, ks.length = ws.length → ∀ n v, (n, v) ∈ (permV ks perm).zip (permV ws perm) → (n, v) ∈ ks.zip ws
  | [], ks, ws, hl, n, v, h => by simp [permV] at h
  | i :: r, ks, ws, hl, n, v, h => by
    unfold permV at h
    cases q : ks[i]? with
    | none =>
      have : ws[i]? = none := by rw [List.getElem?_eq_none_iff] at q ⊢; omega
      rw [q, this] at h
      exact perm_zip hl n v h
    | some a =>
      obtain ⟨hi, e⟩ := List.getElem?_eq_some_iff.mp q
      have hw : ws[i]? = some (ws[i]'(by omega)) := List.getElem?_eq_getElem (by omega)
      rw [q, hw] at h
      simp only [List.zip_cons_cons] at h
      rcases List.mem_cons.mp h with z | z
      · cases z
        rw [List.mem_iff_getElem]
        exact ⟨i, by simp; omega, by simp [e]⟩
      · exact perm_zip hl n v z
theorem permV_len : ∀ {α β : Type} {perm : List Nat} {ks : List α} {ws : List β}, ks.length = ws.length → (permV ks perm).length = (permV ws perm).length
  | α, β, [], _, _, _ => rfl
  | α, β, i :: r, ks, ws, hl => by
    unfold permV
    cases q : ks[i]? with
    | none =>
      have : ws[i]? = none := by rw [List.getElem?_eq_none_iff] at q ⊢; omega
      rw [this]
      exact permV_len hl
    | some a =>
      obtain ⟨hi, e⟩ := List.getElem?_eq_some_iff.mp q
      have hw : ws[i]? = some (ws[i]'(by omega)) := List.getElem?_eq_getElem (by omega)
      rw [hw]
      simp only [List.length_cons]
      rw [permV_len hl]
/-- every parameter by keyword -/
theorem bind_kw (x qual : Str) (args : List Arg) (body : List Stmt) (sc : Scope) (kV doc pm : Value) (an : Option Addr) (cdv ct : Value) (ks : List Str) (ws : List Value) (perm : List Nat) (nd : (args.map (·.arg)).Nodup) (nk : ks.Nodup) (hc : ∀ k ∈ ks, (args.map (·.arg)).contains k = true) (hp : permV ks perm = args.map (·.arg)) (hl : ws.length = ks.length) :
    bindArgs (PySem.W.fnOf x qual ⟨[], args, none, [], [], none, []⟩ body sc .none kV doc pm an cdv ct) ⟨[], ks.zip ws⟩ = pure ((args.map (·.arg)).zip (permV ws perm)) := by
  have hlk : ∀ n v, (n, v) ∈ (args.map (·.arg)).zip (permV ws perm) → (ks.zip ws).lookup n = some v := fun n v h => zip_look nk (perm_zip hl.symm n v (by rw [hp]; exact h))
  have hpl : (args.map (·.arg)).length = (permV ws perm).length := by rw [← hp]; exact permV_len hl.symm
  have hz : (args.map (·.arg)).filterMap (fun n => ((ks.zip ws).lookup n).map (n, ·)) = (args.map (·.arg)).zip (permV ws perm) := zip_filter hlk hpl
  have hf : ((args.map (·.arg)).filter fun n => ((ks.zip ws).lookup n).isNone) = [] := by
    rw [List.filter_eq_nil_iff]
    intro n hn
    obtain ⟨i, hi, e⟩ := List.mem_iff_getElem.mp hn
    have : (n, (permV ws perm)[i]'(by omega)) ∈ (args.map (·.arg)).zip (permV ws perm) := by
      rw [List.mem_iff_getElem]
      exact ⟨i, by simp at hpl hi ⊢; omega, by simp [← e]⟩
    rw [hlk _ _ this]; simp
  have hmem : ∀ p ∈ ks.zip ws, (args.map (·.arg)).contains p.1 = true := fun p hp => hc _ (List.of_mem_zip (show (p.1, p.2) ∈ ks.zip ws from hp)).1
  have hmap : (ks.zip ws).map (·.1) = ks := by rw [List.map_fst_zip]; omega
  unfold bindArgs PySem.W.fnOf
  simp only [List.map_nil, List.nil_append, List.append_nil, List.zip_nil_right]
  rw [forIn_kw (ps := args.map (·.arg)) (fun x acc h1 h2 => by simp only [h1, h2]; simp) (ks.zip ws) [] hmem (by rw [List.map_nil, List.nil_append, hmap]; exact nk)]
  have hs : seqItems? Value.none = pure none := rfl
  generalize args.map (·.arg) = ps at *
  simp [hs, hf, hz]
end AH

set_option Elab.async false
set_option linter.all false
set_option maxRecDepth 100000
set_option maxHeartbeats 400000
/-! AH23: a law's tables; what the head shows; the walk. -/
namespace AH
open PySem PySem.Spec PyProof.Rows L2
structure FRec where
  id : Nat
  d : He.DefD
  N : List Str
  ps : List Str
  b : B
  lm : Bool
  kws : List (List Str × List Nat)
structure CRec where
  id : Nat
  name : Str
  fs : List Nat
  d : He.DefD
  N : List Str
structure MRec where
  id : Nat
  d : He.DefD
  told : Str
  hs : List (Nat × Str × HK)
  N : List Str
  par : Str
structure Tab where
  recs : List FRec
  clss : List CRec
  mets : List MRec
  flds : List Str
def Tab.recF (T : Tab) (f : Nat) : Option FRec := T.recs.find? fun r => r.id == f
def Tab.clsF (T : Tab) (f : Nat) : Option CRec := T.clss.find? fun r => r.id == f
def Tab.metF (T : Tab) (f : Nat) : Option MRec := T.mets.find? fun r => r.id == f
def Tab.fn (T : Tab) (f : Nat) : Str := match T.recF f with
  | some r => r.d.name
  | none => match T.metF f with
    | some m => m.d.name
    | none => Str.empty
def Tab.nm (T : Tab) : Nm where
  has := fun f => (T.recF f).isSome
  fn := T.fn
  ps := fun f => match T.recF f with
    | some r => r.ps
    | none => []
  cls := fun c => match T.clsF c with
    | some c => c.name
    | none => Str.empty
  fld := fun f => (T.flds[f]?).getD Str.empty
  con := fun _ => Str.empty
  kws := fun f => match T.recF f with
    | some r => r.kws
    | none => []
def Tab.prog (T : Tab) : Prog where
  body := fun f => match T.recF f with
    | some r => some (r.N.length, r.ps.length, r.b)
    | none => none
  cls := fun c => match T.clsF c with
    | some c => some c.fs
    | none => none
  met := fun f => if (T.recF f).isSome then none else match T.metF f with
    | some m => some (m.told, m.hs)
    | none => none
  con := fun _ => none
def parC (p : Arguments) (ps : List Str) : Bool := match p with
  | ⟨[], args, none, [], [], none, []⟩ => decide (args.map (·.arg) = ps) && decide ps.Nodup
  | _ => false
theorem parC_ok {p : Arguments} {ps : List Str} (h : parC p ps = true) : ∃ args, p = ⟨[], args, none, [], [], none, []⟩ ∧ args.map (·.arg) = ps ∧ ps.Nodup := by
  unfold parC at h
  split at h
  · rw [Bool.and_eq_true, decide_eq_true_eq, decide_eq_true_eq] at h
    exact ⟨_, rfl, h.1, h.2⟩
  · cases h
def kwC (ps : List Str) (p : List Str × List Nat) : Bool := decide p.1.Nodup && p.1.all (fun k => ps.contains k) && decide (permV p.1 p.2 = ps)
def FRec.ok (T : Tab) (r : FRec) : Bool := decide (r.d.at_ = (r.d.name, none)) && C8.scC r.N r.ps r.d.scope && parC r.d.params r.ps && r.d.dfl.isEmpty && r.d.kwd.isEmpty && r.kws.all (kwC r.ps) && chkB T.nm r.N T.prog r.lm r.d.scope (fun _ => true) r.b r.d.body
def CRec.ok (T : Tab) (c : CRec) : Bool := decide (c.d.at_ = (c.name, some ("__init__" : Str))) && C8.scC c.N c.N c.d.scope && parC c.d.params c.N && c.d.dfl.isEmpty && c.d.kwd.isEmpty && decide (c.N.length = c.fs.length + 1) && decide (c.fs ≠ []) && decide (c.fs.length ≤ 900) && initB c.N c.d.scope (c.fs.map fun f => (T.flds[f]?).getD Str.empty) 1 c.d.body &&
  (c.fs.all fun f => decide (f < T.flds.length))
/-- the parts that are looked at in the text -/
def Tab.ok (T : Tab) : Bool := T.recs.all (FRec.ok T) && T.clss.all (CRec.ok T) && decide T.flds.Nodup
/-! ### what is looked at behind the top -/
def Tab.defs (T : Tab) : List He.DefD := T.recs.map (·.d) ++ T.clss.map (·.d) ++ T.mets.map (·.d)
def Tab.facts (T : Tab) : List He.Fa := T.defs.filterMap (fun d => match d.at_.2 with | none => some (.glo d.at_.1) | some _ => none) ++ T.clss.map (fun c => .glo c.name) ++ bNames.map .free
def isTbl (o : Obj) : Bool := match o.cls, o.data with
  | .none, .fields vs => vs.isEmpty
  | _, _ => false
def noLst (K : PySem.W.Frag) : Bool := K.all fun p => match p.2.cls with
  | .type c => !(c == "list")
  | _ => true
def clsB (T : Tab) (K : PySem.W.Frag) (c : CRec) : Bool := exoB K (He.ga K c.name) && xfB K (He.ga K c.name) && ((c.fs.map fun f => (T.flds[f]?).getD Str.empty).all fun f => decide (PySem.W.findIn K (.ref (He.ga K c.name)) f = some none)) &&
  decide (PySem.W.findIn K (.ref (He.ga K c.name)) "__init__" = some (some (.ref (He.fAd K c.d.at_)))) && decide (PySem.W.typeIn K (.ref (He.fAd K c.d.at_)) = some (.type "function"))
def exmB (T : Tab) (K : PySem.W.Frag) : Bool := T.clss.all fun c => T.clss.all fun c' => decide (PySem.W.exmOne K (.ref (He.ga K c.name)) (.ref (He.ga K c'.name)) = some (c.id == c'.id))
/-- a code object's head -/
def codB (g : Addr → Option Obj) (c P : Addr) : Bool := match g c with
  | some o => (match o.cls with | .type n => n == "code" | _ => false) && (match o.data with
    | .fields vs => decide (vs[11]? = some (.ref P)) && decide (vs.getD 11 .none = .ref P) && (match vs.getD 18 .none with | .str .. => true | _ => false) && (match vs.getD 7 .none with | .int .. => true | _ => false) &&
      (match vs.getD 9 .none with | .bool _ => true | _ => false) && (match vs.getD 10 .none with | .int .. => true | _ => false) && decide (c ≠ P)
    | _ => false)
  | none => false
theorem codB_ok {h : Heap} {c P : Addr} (e : codB h.get? c P = true) : PySem.W.CodeHd h c P := by
  unfold codB at e
  split at e
  · rename_i o ho
    rw [Bool.and_eq_true] at e
    obtain ⟨e1, e2⟩ := e
    have ec : o.cls = .type "code" := by
      split at e1
      · rename_i n hn
        rw [hn, eq_of_beq e1]
      · cases e1
    split at e2
    · rename_i vs hd
      simp only [Bool.and_eq_true, decide_eq_true_eq] at e2
      obtain ⟨⟨⟨⟨⟨⟨a1, a2⟩, a3⟩, a4⟩, a5⟩, a6⟩, a7⟩ := e2
      split at a3
      · rename_i f tf h18
        split at a4
        · rename_i fl tg h7
          split at a5
          · rename_i b h9
            split at a6
            · rename_i t tt h10
              exact ⟨o, vs, f, tf, fl, tg, b, t, tt, ho, ec, hd, a1, a2, h18, h7, h9, h10, a7⟩
            · cases a6
          · cases a5
        · cases a4
      · cases a3
    · cases e2
  · cases e
/-- a def's code object and its table -/
def codeOf (K : PySem.W.Frag) (d : He.DefD) : Addr := match K.lookup (He.fAd K d.at_) with
  | some ⟨_, _, .func fd, _⟩ => (match fd.code with | .ref c => c | _ => 0)
  | _ => 0
def tabOf (g : Addr → Option Obj) (c : Addr) : Addr := match g c with
  | some o => (match o.data with
    | .fields vs => (match vs[11]? with | some (Value.ref P) => P | _ => 0)
    | _ => 0)
  | none => 0
def isTbl0 (o : Obj) : Bool := match o with
  | ⟨.none, none, .fields vs, sl⟩ => vs.isEmpty && sl.isEmpty
  | _ => false
theorem isTbl0_ok {o : Obj} (h : isTbl0 o = true) : o = { cls := .none, data := .fields #[] } := by
  unfold isTbl0 at h
  split at h
  · rename_i vs sl
    rw [Bool.and_eq_true, Array.isEmpty_iff, Array.isEmpty_iff] at h
    rw [h.1, h.2]
  · cases h
def lamRecs (T : Tab) : List FRec := T.recs.filter (·.lm)
def lamB (T : Tab) (g : Addr → Option Obj) (K : PySem.W.Frag) (r : FRec) : Bool :=
  (match K.lookup (He.fAd K r.d.at_) with
    | some ⟨_, _, .func fd, _⟩ => (match fd.code with
      | .ref c => codB g c (tabOf g c) && (match g (tabOf g c) with | some o => isTbl0 o | none => false) && (match K.lookup (tabOf g c) with | none => true | some _ => false) && ((lamRecs T).all fun r' => !(tabOf g (codeOf K r'.d) == tabOf g c) || decide (r'.d.qual = r.d.qual))
      | _ => false)
    | _ => false)
/-- K without tables -/
def frL (g : Addr → Option Obj) (as : List Addr) : PySem.W.Frag := (He.frG g as).filter fun p => !isTbl p.2
theorem mem_lk {β : Type} {a : Addr} {o : β} : ∀ {l : List (Addr × β)}, l.lookup a = some o → (a, o) ∈ l
  | [], h => by cases h
  | p :: r, h => by
    rw [List.lookup_cons] at h
    split at h
    · rename_i e
      cases h
      rw [eq_of_beq e]
      simp
    · exact List.mem_cons_of_mem _ (mem_lk h)
theorem frG_mem {g : Addr → Option Obj} {as : List Addr} {p : Addr × Obj} (h : p ∈ He.frG g as) : g p.1 = some p.2 := by
  unfold He.frG at h
  obtain ⟨a, _, e⟩ := List.mem_filterMap.mp h
  cases q : g a with
  | none => rw [q] at e; cases e
  | some o => rw [q] at e; cases e; exact q
theorem frL_in {h : Heap} {as : List Addr} : (frL h.get? as).In h := fun a o e => by
  have e : List.lookup a (frL h.get? as) = some o := e
  have := mem_lk e
  exact frG_mem (p := (a, o)) (List.mem_filter.mp this).1
abbrev AlL : Type := He.AlD
def allB (T : Tab) (g : Addr → Option Obj) (K : PySem.W.Frag) : Bool := (T.facts.all fun f => f.ok K) && (T.defs.all fun d => d.ok K) && noLst K && T.clss.all (clsB T K) && exmB T K && (lamRecs T).all (lamB T g K)
def obsL (T : Tab) (n : Nat) (g : Addr → Option Obj) : AlL :=
  let K := frL g (He.asD g n)
  (allB T g K, T.defs.map fun d => He.fnW K d.at_)
def valL (T : Tab) : AlL := (true, T.defs.map He.DefD.val)
/-- what is said -/
structure SaysL (T : Tab) (K : PySem.W.Frag) (h : Heap) : Prop where
  kin : K.In h
  facts : ∀ f ∈ T.facts, f.ok K = true
  defs : ∀ d ∈ T.defs, ∃ fd, FunD K d.name d.qual d.params d.body d.scope (d.dvs K) (d.kws K) (He.fAd K d.at_) fd
  nol : noLst K = true
  cls : ∀ c ∈ T.clss, clsB T K c = true
  exm : exmB T K = true
  lam : ∀ r ∈ lamRecs T, ∃ c Pt, (∀ fd, (∃ oc od osl, K.lookup (He.fAd K r.d.at_) = some ⟨oc, od, .func fd, osl⟩) → fd.code = .ref c) ∧ PySem.W.CodeHd h c Pt ∧ h.get? Pt = some { cls := .none, data := .fields #[] } ∧ K.lookup Pt = none ∧
    ∀ r' ∈ lamRecs T, ∀ c' Pt', (∀ fd, (∃ oc od osl, K.lookup (He.fAd K r'.d.at_) = some ⟨oc, od, .func fd, osl⟩) → fd.code = .ref c') → PySem.W.CodeHd h c' Pt' → Pt' = Pt → r'.d.qual = r.d.qual
theorem codeHd_tab {h : Heap} {c P : Addr} (e : PySem.W.CodeHd h c P) : tabOf h.get? c = P := by
  obtain ⟨o, vs, f, tf, fl, tg, b, t, tt, ho, ec, hd, a1, _⟩ := e
  unfold tabOf
  rw [ho]
  simp only [hd, a1]
theorem says_of {T : Tab} {n : Nat} {h : Heap} (e : obsL T n h.get? = valL T) : SaysL T (frL h.get? (He.asD h.get? n)) h := by
  have e1 : allB T h.get? (frL h.get? (He.asD h.get? n)) = true := congrArg (fun z : AlL => z.1) e
  have e2 : (T.defs.map fun d => He.fnW (frL h.get? (He.asD h.get? n)) d.at_) = T.defs.map He.DefD.val := congrArg (fun z : AlL => z.2) e
  generalize hK : frL h.get? (He.asD h.get? n) = K at *
  have hin : K.In h := by rw [← hK]; exact frL_in
  unfold allB at e1
  simp only [Bool.and_eq_true, List.all_eq_true] at e1
  obtain ⟨⟨⟨⟨⟨h1, h2⟩, h3⟩, h4⟩, h5⟩, h6⟩ := e1
  refine ⟨hin, h1, fun d hd => ?_, h3, h4, h5, fun r hr => ?_⟩
  · obtain ⟨i, hi, ed⟩ := List.mem_iff_getElem.mp hd
    have e3 : (T.defs.map fun d => He.fnW K d.at_)[i]? = (T.defs.map He.DefD.val)[i]? := by rw [e2]
    rw [List.getElem?_map, List.getElem?_map, List.getElem?_eq_getElem hi, ed] at e3
    exact He.DefD.funD (Option.some.inj e3) (h2 d hd)
  · have q := h6 r hr
    unfold lamB at q
    split at q
    · rename_i oc od fd osl hlk
      split at q
      · rename_i c hc
        simp only [Bool.and_eq_true, List.all_eq_true, Bool.or_eq_true, decide_eq_true_eq] at q
        obtain ⟨⟨⟨q1, q2⟩, q3⟩, q4⟩ := q
        refine ⟨c, tabOf h.get? c, fun fd' ⟨oc', od', osl', e'⟩ => by rw [hlk] at e'; cases e'; exact hc, codB_ok q1, ?_, ?_, fun r' hr' c' Pt' hc' hd' ep => ?_⟩
        · split at q2
          · rename_i o ho; rw [ho, isTbl0_ok q2]
          · cases q2
        · split at q3
          · assumption
          · cases q3
        · rcases q4 r' hr' with z | z
          · have ec : codeOf K r'.d = c' := by
              have q' := h6 r' hr'
              unfold lamB at q'
              unfold codeOf
              split at q'
              · rename_i oc2 od2 fd2 osl2 hlk2
                have := hc' fd2 ⟨_, _, _, hlk2⟩
                simp only [this]
              · cases q'
            rw [ec, codeHd_tab hd', ep] at z
            simp at z
          · exact z
      · cases q
    · cases q
end AH

set_option Elab.async false
set_option linter.all false
set_option maxRecDepth 100000
set_option maxHeartbeats 400000
/-! AH24: a law's walk. -/
namespace AH
open PySem PySem.Spec PyProof.Rows L2
def qlam (q : Str) : Str := (q ++ ".<locals>.") ++ "<lambda>"
def gam (T : Tab) (K : PySem.W.Frag) (h : Heap) : Gm where
  K := K
  T := (lamRecs T).map fun r => (tabOf h.get? (codeOf K r.d), qlam r.d.qual)
  nmC := fun c => He.ga K (T.nm.cls c)
  nmF := fun f => (T.flds[f]?).getD Str.empty
def csOf (T : Tab) (K : PySem.W.Frag) (h : Heap) : List (Addr × Addr) := (lamRecs T).map fun r => (codeOf K r.d, tabOf h.get? (codeOf K r.d))
theorem isEmpty_ok {α : Type} {l : List α} (h : l.isEmpty = true) : l = [] := List.isEmpty_iff.mp h
theorem codeOf_is {K : PySem.W.Frag} {d : He.DefD} {fd : FuncData} {c : Addr} (h : ∃ oc od osl, K.lookup (He.fAd K d.at_) = some ⟨oc, od, .func fd, osl⟩) (e : fd.code = .ref c) : codeOf K d = c := by
  obtain ⟨oc, od, osl, h⟩ := h
  unfold codeOf
  rw [h]
  simp only [e]
theorem funD_lk {K : PySem.W.Frag} {x qual : Str} {pa : Arguments} {body : List Stmt} {sc : Scope} {dvs : List V} {kws : List (Str × V)} {f : Addr} {fd : FuncData} (F : FunD K x qual pa body sc dvs kws f fd) : ∃ oc od osl, K.lookup f = some ⟨oc, od, .func fd, osl⟩ := by
  obtain ⟨oc, od, dV, kV, doc, pm, an, cdv, ct, osl, e, lk, _⟩ := F.ex
  exact ⟨oc, od, osl, lk⟩
theorem lam_eq {T : Tab} {K : PySem.W.Frag} {h : Heap} (S : SaysL T K h) {r : FRec} (hr : r ∈ lamRecs T) (hf : ∃ fd, ∃ oc od osl, K.lookup (He.fAd K r.d.at_) = some ⟨oc, od, .func fd, osl⟩) :
    PySem.W.CodeHd h (codeOf K r.d) (tabOf h.get? (codeOf K r.d)) ∧ h.get? (tabOf h.get? (codeOf K r.d)) = some { cls := .none, data := .fields #[] } ∧ K.lookup (tabOf h.get? (codeOf K r.d)) = none ∧ (∀ fd, (∃ oc od osl, K.lookup (He.fAd K r.d.at_) = some ⟨oc, od, .func fd, osl⟩) → fd.code = .ref (codeOf K r.d)) := by
  obtain ⟨c, Pt, h1, h2, h3, h4, h5⟩ := S.lam r hr
  obtain ⟨fd, q⟩ := hf
  have e := codeOf_is (d := r.d) q (h1 fd q)
  rw [e, codeHd_tab h2]
  exact ⟨h2, h3, h4, h1⟩
theorem rec_def {T : Tab} {K : PySem.W.Frag} {h : Heap} (S : SaysL T K h) {r : FRec} (hr : r ∈ T.recs) (ok : FRec.ok T r = true) : ∃ fd, FunD K r.d.name r.d.qual r.d.params r.d.body r.d.scope [] [] (He.fAd K r.d.at_) fd := by
  obtain ⟨fd, F⟩ := S.defs r.d (by unfold Tab.defs; simp; exact .inl ⟨r, hr, rfl⟩)
  unfold FRec.ok at ok
  simp only [Bool.and_eq_true] at ok
  obtain ⟨⟨⟨⟨⟨⟨_, _⟩, _⟩, d1⟩, d2⟩, _⟩, _⟩ := ok
  have e1 : r.d.dvs K = [] := by unfold He.DefD.dvs; rw [isEmpty_ok d1]; rfl
  have e2 : r.d.kws K = [] := by unfold He.DefD.kws; rw [isEmpty_ok d2]; rfl
  rw [e1, e2] at F
  exact ⟨fd, F⟩
theorem fdat_of {T : Tab} {K : PySem.W.Frag} {mg : Str → Option Value} {base h : Heap} (ok : T.ok = true) (S : SaysL T K h) (hK : K.In base) (hns : base.Ns mainGlobals mg) (TB : ∀ p ∈ csOf T K h, LamX.TabB base mg p.1 p.2) (f : Nat) (hf : T.nm.has f = true) : ∃ fa fd, FDat T.nm T.prog K mg base (gam T K h) f fa fd := by
  have hf' : (T.recF f).isSome = true := hf
  cases q : T.recF f with
  | none => rw [q] at hf'; cases hf'
  | some r =>
    have hr : r ∈ T.recs := List.mem_of_find?_eq_some q
    unfold Tab.ok at ok
    simp only [Bool.and_eq_true, List.all_eq_true] at ok
    have okr := ok.1.1 r hr
    obtain ⟨fd, F⟩ := rec_def S hr okr
    have okr' := okr
    unfold FRec.ok at okr'
    simp only [Bool.and_eq_true, List.all_eq_true, decide_eq_true_eq] at okr'
    obtain ⟨⟨⟨⟨⟨⟨a1, a2⟩, a3⟩, _⟩, _⟩, a4⟩, a5⟩ := okr'
    obtain ⟨args, p1, p2, p3⟩ := parC_ok a3
    have hnm : T.nm.fn f = r.d.name := by show T.fn f = _; unfold Tab.fn; rw [q]
    have hps : T.nm.ps f = r.ps := by show (match T.recF f with | some r => r.ps | none => []) = _; rw [q]
    have hkw : T.nm.kws f = r.kws := by show (match T.recF f with | some r => r.kws | none => []) = _; rw [q]
    have hbd : T.prog.body f = some (r.N.length, r.ps.length, r.b) := by show (match T.recF f with | some r => some (r.N.length, r.ps.length, r.b) | none => none) = _; rw [q]
    have F' := F
    obtain ⟨oc, od, dV, kV, doc, pm, an, cdv, ct, osl, e, lk, hcd, hdv, _⟩ := F'.ex
    have hdv : dV = .none := by
      rcases hdv with ⟨_, z⟩ | ⟨z, _⟩
      · exact z
      · exact absurd rfl z
    subst hdv
    refine ⟨He.fAd K r.d.at_, fd, r.N.length, r.ps.length, r.b, r.d.qual, r.d.params, r.d.body, r.d.scope, r.N, r.lm, hbd, ?_, by rw [hnm]; exact F, by rw [hps]; exact C8.fnScope_by a2, rfl, by rw [hps], ?_, ?_, a5, fun hl => ?_⟩
    · rw [hnm, a1]
      exact He.glo_ok hK hns (S.facts _ (by
        unfold Tab.facts
        refine List.mem_append_left _ (List.mem_append_left _ (List.mem_filterMap.mpr ⟨r.d, by unfold Tab.defs; simp; exact .inl ⟨r, hr, rfl⟩, ?_⟩))
        rw [a1]))
    · rw [hps]
      refine Binds.all fun us hl => ?_
      rw [e, p1, ← p2]
      exact bind_plain _ _ args _ _ _ _ _ _ _ _ us (by rw [p2]; exact p3) (by rw [p2]; exact hl)
    · intro p hp s ws hl
      rw [hkw] at hp
      have kc := a4 p hp
      unfold kwC at kc
      simp only [Bool.and_eq_true, List.all_eq_true, decide_eq_true_eq] at kc
      rw [hps, e, p1, ← p2]
      exact .of_eq (bind_kw _ _ args _ _ _ _ _ _ _ _ p.1 ws p.2 (by rw [p2]; exact p3) kc.1.1 (fun k hk => by rw [p2]; exact kc.1.2 k hk) (by rw [p2]; exact kc.2) hl)
    · have hlr : r ∈ lamRecs T := List.mem_filter.mpr ⟨hr, hl⟩
      obtain ⟨g1, g2, g3, g4⟩ := lam_eq S hlr ⟨fd, funD_lk F⟩
      refine ⟨codeOf K r.d, tabOf h.get? (codeOf K r.d), g4 fd (funD_lk F), TB _ (List.mem_map.mpr ⟨r, hlr, rfl⟩), List.mem_map.mpr ⟨r, hlr, rfl⟩, fun p hp ep => ?_⟩
      obtain ⟨r', hr', rfl⟩ := List.mem_map.mp hp
      obtain ⟨c, Pt, h1, h2, h3, h4, h5⟩ := S.lam r hlr
      have hr2 : r' ∈ T.recs := (List.mem_filter.mp hr').1
      obtain ⟨fd', F2⟩ := rec_def S hr2 (ok.1.1 r' hr2)
      obtain ⟨k1, k2, k3, k4⟩ := lam_eq S hr' ⟨fd', funD_lk F2⟩
      have ec := codeOf_is (funD_lk F) (h1 fd (funD_lk F))
      have ep' : tabOf h.get? (codeOf K r'.d) = Pt := by
        have : tabOf h.get? (codeOf K r'.d) = tabOf h.get? (codeOf K r.d) := ep
        rw [this, ec, codeHd_tab h2]
      have := h5 r' hr' (codeOf K r'.d) (tabOf h.get? (codeOf K r'.d)) k4 k1 ep'
      show qlam r'.d.qual = _
      rw [this]; rfl
theorem nodup_inj {α : Type} {l : List α} (nd : l.Nodup) {i j : Nat} (hi : i < l.length) (hj : j < l.length) (e : l[i] = l[j]) : i = j := by
  rw [List.nodup_iff_pairwise_ne, List.pairwise_iff_getElem] at nd
  rcases Nat.lt_trichotomy i j with h | h | h
  · exact absurd e (nd i j hi hj h)
  · exact h
  · exact absurd e.symm (nd j i hj hi h)
theorem cls_of {T : Tab} {prog : Program} {w : World} {K : PySem.W.Frag} {mg : Str → Option Value} {base h : Heap} (ok : T.ok = true) (S : SaysL T K h) (hK : K.In base) (hns : base.Ns mainGlobals mg) (c : Nat) (fs : List Nat) (hc : T.prog.cls c = some fs) :
    fs.length ≤ 900 ∧ ClsOk prog w K mg base ((gam T K h).nmC c) (T.nm.cls c) (fs.map (gam T K h).nmF) ∧ ∀ f ∈ fs, ∀ g ∈ fs, (gam T K h).nmF f = (gam T K h).nmF g → f = g := by
  have hc' : (match T.clsF c with | some c => some c.fs | none => none) = some fs := hc
  cases q : T.clsF c with
  | none => rw [q] at hc'; cases hc'
  | some r =>
    rw [q] at hc'
    cases hc'
    have hr : r ∈ T.clss := List.mem_of_find?_eq_some q
    unfold Tab.ok at ok
    simp only [Bool.and_eq_true, List.all_eq_true, decide_eq_true_eq] at ok
    have okr := ok.1.2 r hr
    unfold CRec.ok at okr
    simp only [Bool.and_eq_true, List.all_eq_true, decide_eq_true_eq] at okr
    obtain ⟨⟨⟨⟨⟨⟨⟨⟨⟨a1, a2⟩, a3⟩, a4⟩, a5⟩, a6⟩, a7⟩, a8⟩, a9⟩, a10⟩ := okr
    have hnm : T.nm.cls c = r.name := by show (match T.clsF c with | some c => c.name | none => Str.empty) = _; rw [q]
    have cb := S.cls r hr
    unfold clsB at cb
    simp only [Bool.and_eq_true, List.all_eq_true, decide_eq_true_eq] at cb
    obtain ⟨⟨⟨⟨b1, b2⟩, b3⟩, b4⟩, b5⟩ := cb
    obtain ⟨fd, F⟩ := S.defs r.d (by unfold Tab.defs; simp; exact .inr (.inl ⟨r, hr, rfl⟩))
    have e1 : r.d.dvs K = [] := by unfold He.DefD.dvs; rw [isEmpty_ok a4]; rfl
    have e2 : r.d.kws K = [] := by unfold He.DefD.kws; rw [isEmpty_ok a5]; rfl
    rw [e1, e2] at F
    obtain ⟨args, p1, p2, p3⟩ := parC_ok a3
    obtain ⟨oc, od, dV, kV, doc, pm, an, cdv, ct, osl, e, lk, hcd, hdv, _⟩ := F.ex
    have hdv : dV = .none := by
      rcases hdv with ⟨_, z⟩ | ⟨z, _⟩
      · exact z
      · exact absurd rfl z
    subst hdv
    have hC : (gam T K h).nmC c = He.ga K r.name := by show He.ga K (T.nm.cls c) = _; rw [hnm]
    have hb : Binds K fd r.N [] := by
      refine Binds.all fun us hl => ?_
      rw [e, p1, ← p2]
      exact bind_plain _ _ args _ _ _ _ _ _ _ _ us (by rw [p2]; exact p3) (by rw [p2]; exact hl)
    refine ⟨a8, ⟨?_, by rw [hC]; exact exoB_ok b1, by rw [hC]; exact xfB_ok b2, by rw [hC]; exact fun f hf => b3 f hf, ⟨He.fAd K r.d.at_, fd, r.N, by rw [hC]; exact b4, b5, hb, by rw [hC]; exact cls_init (exoB_ok b1) F (C8.fnScope_by a2) (by rw [List.length_map]; exact a6) (by intro z; exact a7 (List.map_eq_nil_iff.mp z)) (by rw [List.length_map]; exact a8) (fun f hf => b3 f hf) a9⟩⟩, fun f hf g hg e => ?_⟩
    · rw [hC, hnm]
      exact He.glo_ok hK hns (S.facts _ (by
        unfold Tab.facts
        exact List.mem_append_left _ (List.mem_append_right _ (List.mem_map.mpr ⟨r, hr, rfl⟩))))
    · have h1 := a10 f hf
      have h2 := a10 g hg
      have e : (T.flds[f]?).getD Str.empty = (T.flds[g]?).getD Str.empty := e
      rw [List.getElem?_eq_getElem h1, List.getElem?_eq_getElem h2] at e
      exact nodup_inj ok.2 h1 h2 e
theorem gx_of {T : Tab} {prog : Program} {w : World} {K : PySem.W.Frag} {mg : Str → Option Value} {base h : Heap} (ok : T.ok = true) (S : SaysL T K h) (hK : K.In base) (hns : base.Ns mainGlobals mg) (TB : ∀ p ∈ csOf T K h, LamX.TabB base mg p.1 p.2)
    (hM : ∀ f told hs, T.prog.met f = some (told, hs) → (∀ q ∈ hs, (T.prog.cls q.1).isSome = true) ∧ MetOk prog w K mg base (gam T K h) (T.nm.fn f) told hs) : GX T.nm T.prog prog w K mg base (gam T K h) where
  hK := rfl
  bl := fun x hx => He.free_ok hK hns (S.facts _ (by
    unfold Tab.facts
    exact List.mem_append_right _ (List.mem_map.mpr ⟨x, hx, rfl⟩)))
  cl := fun c fs hc => cls_of ok S hK hns c fs hc
  xm := fun c c' h1 h2 => by
    have lt : ∀ c, (T.prog.cls c).isSome = true → ∃ r ∈ T.clss, r.id = c ∧ T.nm.cls c = r.name := fun c hc => by
      have hc : (match T.clsF c with | some c => some c.fs | none => none).isSome = true := hc
      cases q : T.clsF c with
      | none => rw [q] at hc; cases hc
      | some r =>
        refine ⟨r, List.mem_of_find?_eq_some q, ?_, ?_⟩
        · have := List.find?_some q
          exact eq_of_beq this
        · show (match T.clsF c with | some c => c.name | none => Str.empty) = _
          rw [q]
    obtain ⟨r, hr, e1, e2⟩ := lt c h1
    obtain ⟨r', hr', e1', e2'⟩ := lt c' h2
    have e := S.exm
    unfold exmB at e
    have e3 := of_decide_eq_true (List.all_eq_true.mp (List.all_eq_true.mp e r hr) r' hr')
    show PySem.W.exmOne K (.ref (He.ga K (T.nm.cls c))) (.ref (He.ga K (T.nm.cls c'))) = _
    rw [e2, e2', e3, e1, e1']
  mt := hM
  con := fun x v e => by cases e
  fd := fun f hf => fdat_of ok S hK hns TB f hf
/-- a script -/
def scrH (ns : List Int) : AHp := AHp.emp.add (.scr ns)
theorem scr_rel0 {T : Tab} {K : PySem.W.Frag} {h : Heap} {H : Hp} {a : Addr} {ns : List Int} (hH : ∀ p ∈ csOf T K h, H p.2 = some (.tbl #[])) (hn : noLst K = true) (hS : SqL K H a (ns.map V.int)) : Rel (gam T K h) (fun i => if i = 0 then some a else none) (scrH ns) H := by
  have hu : ∃ u, H a = some u ∧ (u = .lst (ns.map V.int) ∨ ∃ o, u = .frz o (.lst (ns.map V.int))) := by
    rcases hS with (z | ⟨o, z⟩) | ⟨o, its, n, hk, hc, _⟩
    · exact ⟨_, z, .inl rfl⟩
    · exact ⟨_, z, .inr ⟨o, rfl⟩⟩
    · unfold noLst at hn
      have := List.all_eq_true.mp hn (a, o) (mem_lk hk)
      simp only [hc] at this
      simp at this
  obtain ⟨u, h1, h2⟩ := hu
  refine ⟨fun i o q => ?_, fun i j b q1 q2 => ?_, fun i b q => ?_, fun i b q => ?_, fun p hp => ?_⟩
  · unfold scrH at q
    rw [AHp.get_add] at q
    split at q
    · rename_i e
      cases q
      exact ⟨a, if_pos e, u, h1, h2⟩
    · rw [AHp.get_emp] at q; cases q
  · split at q1 <;> split at q2
    · omega
    · cases q2
    · cases q1
    · cases q1
  · split at q
    · rename_i e; subst e; show 0 < 0 + 1; omega
    · cases q
  · split at q
    · cases q
      refine ⟨u, h1, fun ps z => ?_⟩
      rcases h2 with e | ⟨o, e⟩ <;> rw [e] at z <;> cases z
    · cases q
  · obtain ⟨r, hr, rfl⟩ := List.mem_map.mp hp
    exact LamX.TabS.nil (hH _ (List.mem_map.mpr ⟨r, hr, rfl⟩))
/-- THE LAW's promise from the run -/
theorem law_at {T : Tab} {l : PySem.W.OpenLaw} {w : World} {K : PySem.W.Frag} {mg : Str → Option Value} {h : Heap} {n F_ d fl : Nat} {x : Str} {fa : Addr} (ok : T.ok = true) (S : SaysL T K h) (hm : mg (T.nm.fn fl) = some (.ref fa)) (hns0 : h.Ns mainGlobals mg) (hfl : T.nm.has fl = true) (hps : T.nm.ps fl = [x])
    (hM : ∀ base : Heap, K.In base → base.Ns mainGlobals mg → ∀ f told hs, T.prog.met f = some (told, hs) → (∀ q ∈ hs, (T.prog.cls q.1).isSome = true) ∧ MetOk l.prog w K mg base (gam T K h) (T.nm.fn f) told hs)
    (plain : ∀ ns : List Int, ns.length ≤ n → (∀ z ∈ ns, Builtin.Int.intBits z ≤ 1048576) → ∃ h', run T.prog F_ d fl [.ref 0] (scrH ns) = .ok (.bl true) h') : LamX.LawAtS l w K (L2.CX l.prog w) (lv d) n x mg fa h := by
  have hfl' : (T.recF fl).isSome = true := hfl
  cases q : T.recF fl with
  | none => rw [q] at hfl'; cases hfl'
  | some r =>
    have hr : r ∈ T.recs := List.mem_of_find?_eq_some q
    have ok' := ok
    unfold Tab.ok at ok'
    simp only [Bool.and_eq_true, List.all_eq_true] at ok'
    have okr := ok'.1.1 r hr
    obtain ⟨fd, F⟩ := rec_def S hr okr
    have okr' := okr
    unfold FRec.ok at okr'
    simp only [Bool.and_eq_true, List.all_eq_true, decide_eq_true_eq] at okr'
    obtain ⟨⟨⟨⟨⟨⟨a1, a2⟩, a3⟩, _⟩, _⟩, a4⟩, a5⟩ := okr'
    obtain ⟨args, p1, p2, p3⟩ := parC_ok a3
    have hrp : r.ps = [x] := by
      have : T.nm.ps fl = r.ps := by show (match T.recF fl with | some r => r.ps | none => []) = _; rw [q]
      rw [← this, hps]
    have hnm : T.nm.fn fl = r.d.name := by show T.fn fl = _; unfold Tab.fn; rw [q]
    have hfa : fa = He.fAd K r.d.at_ := by
      have g := He.glo_ok S.kin hns0 (S.facts (.glo r.d.name) (by
        unfold Tab.facts
        refine List.mem_append_left _ (List.mem_append_left _ (List.mem_filterMap.mpr ⟨r.d, by unfold Tab.defs; simp; exact .inl ⟨r, hr, rfl⟩, ?_⟩))
        rw [a1]))
      rw [hnm, g] at hm
      cases hm
      rw [a1]; rfl
    have F' := F
    obtain ⟨oc, od, dV, kV, doc, pm, an, cdv, ct, osl, e, lk, hcd, hdv, _⟩ := F'.ex
    have hdv : dV = .none := by
      rcases hdv with ⟨_, z⟩ | ⟨z, _⟩
      · exact z
      · exact absurd rfl z
    subst hdv
    have lamA : ∀ p ∈ csOf T K h, ∃ r ∈ lamRecs T, p = (codeOf K r.d, tabOf h.get? (codeOf K r.d)) ∧ PySem.W.CodeHd h (codeOf K r.d) (tabOf h.get? (codeOf K r.d)) ∧ h.get? (tabOf h.get? (codeOf K r.d)) = some { cls := .none, data := .fields #[] } ∧ K.lookup (tabOf h.get? (codeOf K r.d)) = none := fun p hp => by
      obtain ⟨r, hr, rfl⟩ := List.mem_map.mp hp
      have hr2 : r ∈ T.recs := (List.mem_filter.mp hr).1
      obtain ⟨fd', F2⟩ := rec_def S hr2 (ok'.1.1 r hr2)
      obtain ⟨k1, k2, k3, _⟩ := lam_eq S hr ⟨fd', funD_lk F2⟩
      exact ⟨r, hr, rfl, k1, k2, k3⟩
    refine ⟨fd, csOf T K h, spF (gam T K h) (run T.prog F_ d fl) 1, fun p hp => ?_, fun p hp => ?_, fun p hp => ?_, fun s u => ?_, fun H a ns hl hb hH hS => ?_, fun base hKb hns TB => ?_⟩
    · obtain ⟨r', hr', rfl, k1, k2, k3⟩ := lamA p hp; exact k2
    · obtain ⟨r', hr', rfl, k1, k2, k3⟩ := lamA p hp; exact k3
    · obtain ⟨r', hr', rfl, k1, k2, k3⟩ := lamA p hp; exact k1
    · rw [e, p1]
      have := bind_plain r.d.name r.d.qual args r.d.body r.d.scope kV doc pm an cdv ct [u] (by rw [p2]; exact p3) (by rw [p2, hrp]; rfl)
      rw [p2, hrp] at this
      exact .of_eq this
    · obtain ⟨h', e'⟩ := plain ns hl hb
      refine ⟨rfl, _, scrH ns, [.ref 0], scr_rel0 hH S.nol hS, .cons ⟨a, if_pos rfl, rfl⟩ .nil, ?_⟩
      rw [e']
      exact fun μ1 H1 x e1 r1 rv => rv
    · have G := gx_of (prog := l.prog) (w := w) ok S hKb hns TB (hM base hKb hns)
      obtain ⟨fa', fd', D⟩ := G.fd fl hfl
      have D' := D
      obtain ⟨n', kk', b', qual', pa', body', sc', Nf', lmf', q1, q2, q3, _⟩ := D
      have hm2 : mg (T.nm.fn fl) = some (.ref fa') := q2
      rw [hm] at hm2
      cases hm2
      have efd : fd' = fd := by
        obtain ⟨_, _, _, l1⟩ := funD_lk q3
        rw [hfa, lk] at l1
        injection l1 with l1
        injection l1 with _ _ l1
        injection l1 with l1
        exact l1.symm
      subst efd
      have := fn_lv (F := F_) G d fl _ _ D'
      rw [hps] at this
      exact this
end AH

set_option Elab.async false
set_option linter.all false
set_option maxRecDepth 100000
set_option maxHeartbeats 400000
/-! AH25: the hook. -/
namespace AH
open PySem PySem.Spec PyProof.Rows L2
theorem says_keeps {T : Tab} {K : PySem.W.Frag} {h h' : Heap} (S : SaysL T K h) (k : ∀ b o, h.get? b = some o → h'.get? b = some o) : SaysL T K h' where
  kin := PySem.W.Frag.In.keeps S.kin k
  facts := S.facts
  defs := S.defs
  nol := S.nol
  cls := S.cls
  exm := S.exm
  lam := fun r hr => by
    obtain ⟨c, Pt, h1, h2, h3, h4, h5⟩ := S.lam r hr
    refine ⟨c, Pt, h1, h2.keeps k, k _ _ h3, h4, fun r' hr' c' Pt' hc' hd' ep => ?_⟩
    obtain ⟨c2, P2, g1, g2, g3, g4, g5⟩ := S.lam r' hr'
    have hr2 : r' ∈ T.recs := (List.mem_filter.mp hr').1
    obtain ⟨fd, F⟩ := S.defs r'.d (by unfold Tab.defs; simp; exact .inl ⟨r', hr2, rfl⟩)
    have e1 := g1 fd (funD_lk F)
    have e2 := hc' fd (funD_lk F)
    rw [e1] at e2
    cases e2
    have := codeHd_tab (g2.keeps k)
    rw [codeHd_tab hd'] at this
    subst this
    exact h5 r' hr' _ Pt' g1 g2 ep
def hookL (T : Tab) (n : Nat) : PySem.W.Hook where
  α := AlL
  obs := fun s => obsL T n s.heap.get?
  val := fun _ => valL T
  says := fun _ h => ∃ K : PySem.W.Frag, SaysL T K h
  of := fun _ _ e => ⟨_, says_of e⟩
  keeps := fun _ _ _ ⟨K, S⟩ k => ⟨K, says_keeps S k⟩
def obT (T : Tab) (n : Nat) (s : PySem.W.SharedT) : AlL := obsL T n (HandSHeadRun.getT s)
theorem obT_eq (T : Tab) (n : Nat) (s : PySem.W.SharedT) : obT T n s = (hookL T n).obs s.abs := by
  have e : HandSHeadRun.getT s = s.abs.heap.get? := funext (HandSHeadRun.getT_eq s)
  unfold obT
  rw [e]
  rfl
/-- what a law asks of its walk -/
theorem walk_law {T : Tab} {l : PySem.W.OpenLaw} {n F_ d fl nh : Nat} {q : Program} {loose : List Str} {XP : (Str → Option Value) → Heap → Prop} {df : DefRec} {x : Str} (ok : T.ok = true) (hn : l.most = some n) (hn2 : n ≤ sizeLine) (hdf : df.params.defaults = []) (hr : Room (lv d) callerA)
    (hname : df.name = T.nm.fn fl) (hfl : T.nm.has fl = true) (hps : T.nm.ps fl = [x])
    (hM : ∀ (w : World) (mg : Str → Option Value) (K : PySem.W.Frag) (h base : Heap), SaysL T K h → K.In base → base.Ns mainGlobals mg → ∀ f told hs, T.prog.met f = some (told, hs) → (∀ q ∈ hs, (T.prog.cls q.1).isSome = true) ∧ MetOk l.prog w K mg base (gam T K h) (T.nm.fn f) told hs)
    (plain : ∀ ns : List Int, ns.length ≤ n → (∀ z ∈ ns, Builtin.Int.intBits z ≤ 1048576) → ∃ h', run T.prog F_ d fl [.ref 0] (scrH ns) = .ok (.bl true) h') :
    PySem.W.WalkO q loose XP (hookL T nh).says l.row.toRowW df [] (fun f vs => PySem.call f vs) :=
  LamX.walk_ofTsE (CX := fun w => L2.CX l.prog w) (x := x) hn hn2 hdf hr (fun w mg fa h ⟨K, S⟩ hns hm => ⟨K, S.kin, law_at ok S (by rw [← hname]; exact hm) hns hfl hps (fun base hK hb => hM w mg K h base S hK hb) plain⟩) fun w H s e s' ⟨_, _, _, _, _, _, _, _, _, _, _, _, z⟩ => z
end AH

set_option Elab.async false
set_option linter.all false
set_option maxRecDepth 100000
set_option maxHeartbeats 4000000
/-! AHT: several except clauses, some with a name. -/
namespace AHT
open PySem PySem.Spec PyProof.Rows L2
abbrev Cl := Value × Option Nat × (Addr → Value → Option Addr → TS)
def wA (K : PySem.W.Frag) (Wout : WX) (D : Ends) : List Cl → WX
  | [] => Wout
  | (c, some i, ts) :: r => fun cls d σ H => ∃ b, PySem.W.exmOne K cls c = some b ∧ (b = true → ∀ a, H a = none → ts a cls d { nx := fun σ' H' => D.nx (σ'.set i none) H', rt := D.rt, bk := fun σ' H' => D.bk (σ'.set i none) H', ct := fun σ' H' => D.ct (σ'.set i none) H' } (σ.set i (some (.ref a))) H) ∧
      (b = false → wA K Wout D r cls d σ H)
  | (c, none, ts) :: r => fun cls d σ H => ∃ b, PySem.W.exmOne K cls c = some b ∧ (b = true → ∀ a, H a = none → ts a cls d D σ H) ∧ (b = false → wA K Wout D r cls d σ H)
inductive HdsA (X : Cx) : List ExceptHandler → List Cl → Prop
  | nil : HdsA X [] []
  | as {x n : Str} {i : Nat} {c : Value} {ts : Addr → Value → Option Addr → TS} {b₀ : Stmt} {suite : List Stmt} {np pos' : Pos} {hds : List ExceptHandler} {l : List Cl} (hc : Names X x c) (hi : X.N[i]? = some n) (hln : X.env.kindOf n = some .local)
      (hsu : ∀ (a : Addr) (oe : Obj) (cls : Value) (d : Option Addr) (pn : List (Addr × Obj)), Zc cls d oe → (∃ vs, oe.data = .fields vs) → PSs (X.suite a ((a, oe) :: pn)) (b₀ :: suite) (fun D σ H => σ[i]? = some (some (.ref a)) ∧ ts a cls d D σ H)) (r : HdsA X hds l) :
      HdsA X (.ExceptHandler (some (.Name x np)) (some n) (b₀ :: suite) pos' :: hds) ((c, some i, ts) :: l)
  | only {x : Str} {c : Value} {ts : Addr → Value → Option Addr → TS} {b₀ : Stmt} {suite : List Stmt} {np pos' : Pos} {hds : List ExceptHandler} {l : List Cl} (hc : Names X x c)
      (hsu : ∀ (a : Addr) (oe : Obj) (cls : Value) (d : Option Addr) (pn : List (Addr × Obj)), Zc cls d oe → (∃ vs, oe.data = .fields vs) → PSs (X.suite a ((a, oe) :: pn)) (b₀ :: suite) (ts a cls d)) (r : HdsA X hds l) :
      HdsA X (.ExceptHandler (some (.Name x np)) none (b₀ :: suite) pos' :: hds) ((c, none, ts) :: l)
section
variable {X : Cx} {body : List Stmt} {h₀ : ExceptHandler} {hds : List ExceptHandler} {l : List Cl} {pos : Pos} {tb : WX → TS} {Wout : WX}
theorem ps_try_A (hs : X.stack = X.env :: X.outer) (hf : X.env.frame = some X.env.locals) (hN : X.N.Nodup) (tk : Takes X Wout)
    (hb : ∀ (W : WX) (pn : List (Addr × Obj)) (xe : Value → Shared → Prop), Takes (X.tr pn xe) W → PassesOwn (model X.prog X.w) X.A X.env xe → PSs (X.tr pn xe) body (tb W))
    (hh : HdsA X (h₀ :: hds) l) : PS X (.Try body (h₀ :: hds) [] [] pos) (fun D σ H => tb (wA X.K Wout D l) D σ H) := by
  refine ⟨fun pins s σ H D I h => ?_⟩
  have ok := I.ok
  have hfr : X.A.frames = some (X.env :: X.outer) := by rw [ok.frames, hs]
  refine wpAny_Try_except ?_
  refine wpAny_mono ((hb (wA X.K Wout D l) (X.pn ++ pins) (fun e s₁ => wpAny (model X.prog X.w) X.A (noteFrame e X.env) (fun _ s₂ => wpAny (model X.prog X.w) X.A (setFlight e none) (fun _ s₃ =>
    wpAny (model X.prog X.w) X.A (handleBy e X.env (h₀ :: hds)) (SP X pins D) X.xe s₃) X.xe s₂) X.xe s₁) (fun u s' xx => ?_) PassesOwn.looking).run [] s σ H D (I.toTry _) h) (fun f s1 hsp => ?_) (fun e s1 he => he)
  · obtain ⟨a, B, sI, pins', σ', H', cls, d, rfl, J', nb, up, sky, na, os, ag, w⟩ := xx
    have J : Inv X pins σ' H' sI := J'.ofTry ok
    have sky' : Sky B (X.env :: X.outer) a (Zc cls d) X.env.locals s'.heap := by rw [← hs]; exact sky
    show wpAny (model X.prog X.w) X.A (noteFrame (.ref a) X.env) _ _ _
    refine Sky.land Zc.steady hfr hf sky' fun h3 fl3 up3 => ?_
    have J3 : Inv X pins σ' H' { s' with heap := h3 } := J.landed nb fl3.1 (up.trans up3) os ag
    obtain ⟨oe3, vs3, he3, hz3, hd3⟩ := fl3.there
    have notFr : ∀ {h : Heap} {o : Obj} {vs : Array Value}, h.FunFrames B (X.env :: X.outer) → h.get? a = some o → o.data = .fields vs → a ∉ frs (X.env :: X.outer) := fun {h o vs} ff e dd hm => by
      obtain ⟨_, o', e', hnf⟩ := ff.mem hm
      rw [e] at e'; cases e'
      exact hnf _ dd
    have nfr := notFr fl3.2.2.1 he3 hd3
    have nL : a ≠ X.env.locals := fun z => nfr (List.mem_filterMap.mpr ⟨X.env, List.mem_cons_self, by rw [hf, z]⟩)
    have nF : a ∉ X.fs := fun hm => by
      obtain ⟨e, he, q⟩ := List.mem_filterMap.mp hm
      exact nfr (List.mem_filterMap.mpr ⟨e, List.mem_cons_of_mem _ he, q⟩)
    have S3 := J3.suite he3 hd3 na nL nF
    have test : ∀ {x : Str} {c : Value} {np : Pos} {Q : Value → Shared → Prop} {E : Value → Shared → Prop}, Names X x c → Q c { s' with heap := h3 } → wpAny (model X.prog X.w) (X.A.mark (some (.ref a))) (eval (.Name x np) X.env) Q E { s' with heap := h3 } := fun {x c np Q E} hc q => by
      obtain ⟨hg, hdbg, hm | ⟨hm, hv, hnn⟩⟩ := hc
      · exact ld_glob (X := X.suite a ((a, oe3) :: (X.pn ++ pins))) S3 hg hm q hdbg
      · exact ld_blt (X := X.suite a ((a, oe3) :: (X.pn ++ pins))) S3 hg hm hv q hnn hdbg
    have LT : PySem.W.Looks (model X.prog X.w) h3 (typeOf (.ref a)) cls := fun A Q E s k q => wpAny_typeOf_ref (k _ _ he3) (by rw [hz3.1]; exact q)
    have go : ∀ {hds' : List ExceptHandler} {l' : List Cl}, HdsA X hds' l' → wA X.K Wout D l' cls d σ' H' →
        wpAny (model X.prog X.w) X.A (handleBy (.ref a) X.env hds') (SP X pins D) X.xe { s' with heap := h3 } := by
      intro hds' l' hk
      induction hk with
      | nil =>
        intro w
        refine wpAny_handleBy_nil ?_
        obtain ⟨k1, k2, k3, oe, vs, T, oT, ts', he, hz, hd, h1, hr⟩ := id fl3
        unfold PySem.passOn
        refine wpAny_bind (wpAny_field he hd h1 ?_)
        rw [if_neg (show ¬ ((Value.ref T == Value.none) = true) from by simp)]
        have fin : wpAny (model X.prog X.w) X.A (setFlight (.ref a) X.env.frame) (fun _ s4 => wpAny (model X.prog X.w) X.A (throw (.ref a) : Sem Flow) (SP X pins D) X.xe s4) X.xe { s' with heap := h3 } := by
          rw [hf]
          refine HandSPX.setFlight_upZ fl3 fun h4 hh4 up4 => wpAny_throw (tk _ _ ?_)
          exact ⟨a, B, sI, pins, σ', H', cls, d, rfl, J, nb, (up.trans up3).trans up4, .inr (.inr (by rw [hs]; exact hh4)), na, os, ag, w⟩
        first
          | exact wpAny_bind (wpAny_pure (wpAny_bind fin))
          | exact wpAny_bind fin
      | @only x c ts b₀ suite np pos' hds2 l2 hc hsu r ih =>
        intro w
        obtain ⟨b, hb1, hyes, hno⟩ := w
        refine wpAny_handleBy_cons (codeAny_handlers_test ?_) (by intro q; cases q)
        have LM := PySem.W.exm_one (M := model X.prog X.w) (J3.kIn) LT hb1
        refine test hc (LM.here ?_)
        cases b with
        | true =>
          refine codeAny_handlers_suite ?_
          refine HandSPX.lands_againZ fl3 fun h4 fl4 up4 => ?_
          have J4 : Inv X pins σ' H' { s' with heap := h4 } := J.landed nb fl4.1 ((up.trans up3).trans up4) os ag
          obtain ⟨oe4, vs4, he4, hz4, hd4⟩ := fl4.there
          have S4 := J4.suite he4 hd4 na nL nF
          refine wpAny_mono ((hsu a oe4 cls d (X.pn ++ pins) hz4 ⟨_, hd4⟩).run [] _ _ H' _ S4 (hyes rfl a na)) (fun f s6 hsp => ?_) (fun _ _ z => False.elim z)
          cases f with
          | next => obtain ⟨σ6, H6, S6, q6⟩ := hsp; exact ⟨_, _, S6.unsuite ok, q6⟩
          | brk => obtain ⟨σ6, H6, S6, q6⟩ := hsp; exact ⟨_, _, S6.unsuite ok, q6⟩
          | cont => obtain ⟨σ6, H6, S6, q6⟩ := hsp; exact ⟨_, _, S6.unsuite ok, q6⟩
          | ret u => obtain ⟨v6, σ6, H6, S6, r6, q6⟩ := hsp; exact ⟨_, _, _, S6.unsuite ok, r6, q6⟩
        | false =>
          show wpAny _ X.A (handleBy (.ref a) X.env hds2) _ _ _
          exact ih (hno rfl)
      | @as x n i c ts b₀ suite np pos' hds2 l2 hc hi hln hsu r ih =>
        intro w
        obtain ⟨b, hb1, hyes, hno⟩ := w
        refine wpAny_handleBy_cons (codeAny_handlers_test ?_) (by intro q; cases q)
        have LM := PySem.W.exm_one (M := model X.prog X.w) (J3.kIn) LT hb1
        refine test hc (LM.here ?_)
        cases b with
        | true =>
          refine codeAny_handlers_suite_as ?_
          refine HandSPX.lands_againZ fl3 fun h4 fl4 up4 => ?_
          have J4 : Inv X pins σ' H' { s' with heap := h4 } := J.landed nb fl4.1 ((up.trans up3).trans up4) os ag
          obtain ⟨oe4, vs4, he4, hz4, hd4⟩ := fl4.there
          have S4 := J4.suite he4 hd4 na nL nF
          refine store_ok (X := X.suite a ((a, oe4) :: (X.pn ++ pins))) (v := .ref a) S4 hN hi (.inl hln) rfl (fun s5 S5 => ?_) (.inr hln)
          have hlt : i < σ'.length := by
            have h1 := (List.getElem?_eq_some_iff.mp hi).1
            have h2 : σ'.length = X.N.length := J.len
            omega
          refine wpAny_mono ((hsu a oe4 cls d (X.pn ++ pins) hz4 ⟨_, hd4⟩).run [] s5 _ H' _ S5 ⟨List.getElem?_set_self hlt, hyes rfl a na⟩) (fun f s6 hsp => ?_) (fun _ _ z => False.elim z)
          have end_ : ∀ {σ6 : L2.St} {H6 : Hp} {Q : Shared → Prop}, Inv (X.suite a ((a, oe4) :: (X.pn ++ pins))) [] σ6 H6 s6 → (∀ s7, Inv X pins (σ6.set i none) H6 s7 → Q s7) →
              wpAny (model X.prog X.w) X.A (do bindName X.env n .none; unbindBehindTheSuite X.env n pos') (fun _ s7 => Q s7) X.xe s6 := fun {σ6 H6 Q} S6 hq => gone_ok (S6.unsuite ok) hN hi hln hq
          cases f with
          | next => obtain ⟨σ6, H6, S6, q6⟩ := hsp; exact end_ S6 fun s7 J7 => ⟨_, _, J7, q6⟩
          | brk => obtain ⟨σ6, H6, S6, q6⟩ := hsp; exact end_ S6 fun s7 J7 => ⟨_, _, J7, q6⟩
          | cont => obtain ⟨σ6, H6, S6, q6⟩ := hsp; exact end_ S6 fun s7 J7 => ⟨_, _, J7, q6⟩
          | ret u => obtain ⟨v6, σ6, H6, S6, r6, q6⟩ := hsp; exact end_ S6 fun s7 J7 => ⟨_, _, _, J7, r6, q6⟩
        | false =>
          show wpAny _ X.A (handleBy (.ref a) X.env hds2) _ _ _
          exact ih (hno rfl)
    exact go hh w
  · cases f with
    | next => obtain ⟨σ', H', J', q⟩ := hsp; exact wpAny_execs_nil ⟨σ', H', J'.ofTry ok, q⟩
    | brk => obtain ⟨σ', H', J', q⟩ := hsp; exact ⟨σ', H', J'.ofTry ok, q⟩
    | cont => obtain ⟨σ', H', J', q⟩ := hsp; exact ⟨σ', H', J'.ofTry ok, q⟩
    | ret u => obtain ⟨v, σ', H', J', r, q⟩ := hsp; exact ⟨v, σ', H', J'.ofTry ok, r, q⟩
end
end AHT

set_option Elab.async false
set_option linter.all false
set_option maxRecDepth 100000
set_option maxHeartbeats 400000
/-! AH26: defs that ask and tell of errors. -/
namespace AH
open PySem PySem.Spec PyProof.Rows L2
/-- what a clause hands back, looked at -/
def hkB (n : Option Str) (flds : List Str) : HK → Expr → Bool
  | .none, x => (match x with | .Constant .none _ _ => true | _ => false)
  | .fld f, x => (match n, x with | some n, .Attribute (.Name m _) g _ => decide (m = n) && decide (g = (flds[f]?).getD Str.empty) | _, _ => false)
  | .two f g, x => (match n, x with
    | some n, .Tuple [.Attribute (.Name m _) y _, .Attribute (.Name m2 _) z _] _ _ => decide (m = n) && decide (m2 = n) && decide (y = (flds[f]?).getD Str.empty) && decide (z = (flds[g]?).getD Str.empty)
    | _, _ => false)
def hdsB (T : Tab) (N : List Str) (sc : Scope) : List (Nat × Str × HK) → List ExceptHandler → Bool
  | [], [] => true
  | (c, w, hk) :: hs, .ExceptHandler (some (.Name x _)) n [.Return (some (.Tuple [.Constant (.str z) _ _, e] _ _)) _] _ :: r => decide (x = T.nm.cls c) && (T.clsF c).isSome && glb sc x && nmOk x && decide (z = w) && hkB n T.flds hk e &&
      (match n with | some n => decide (N[1]? = some n) && decide (sc.names.lookup n = some .local) && nmOk n | none => true) && hdsB T N sc hs r
  | _, _ => false
def metB (T : Tab) (m : MRec) : Bool := match m.d.body with
  | [.Try [.Return (some (.Tuple [.Constant (.str z) _ _, .Call (.Name a _) [] [] _] _ _)) _] (h :: hs) [] [] _] => decide (z = m.told) && decide (a = m.par) && hdsB T m.N m.d.scope m.hs (h :: hs)
  | _ => false
def MRec.ok (T : Tab) (m : MRec) : Bool := decide (m.d.at_ = (m.d.name, none)) && decide (m.d.qual = m.d.name) && C8.scC m.N [m.par] m.d.scope && parC m.d.params [m.par] && m.d.dfl.isEmpty && m.d.kwd.isEmpty && decide (m.N[0]? = some m.par) && vis m.d.scope m.par && nmOk m.par && metB T m
section
variable {X : Cx} {K : PySem.W.Frag} {Γ : Gm} {N : List Str} {sc : Scope} {pos : Pos}
theorem PSs.from {X : Cx} {sts : List Stmt} {t : TS} (h : ∀ D σ H, t D σ H → ∃ t', PSs X sts t' ∧ t' D σ H) : PSs X sts t := ⟨fun pins s σ H D I q => let ⟨_, p, q'⟩ := h D σ H q; p.run pins s σ H D I q'⟩
theorem two_le : 2 ≤ sizeLine := by decide
/-- return (w, e.f) in an except suite -/
theorem suite_ok {flds : List Str} {w : Str} {hk : HK} {n : Option Str} {e : Expr} {a : Addr} {oe : Obj} {cls : Value} {d : Option Addr} {pn : List (Addr × Obj)} {j k1 p1 p2 p3} (hK : X.K = K) (hfl : ∀ f, Γ.nmF f = (flds[f]?).getD Str.empty) (hb : hkB n flds hk e = true) (hz : Zc cls d oe) (hf : ∃ vs, oe.data = .fields vs)
    (hn : ∀ m, n = some m → X.N[1]? = some m ∧ Vis X.env.scope m ∧ nmOk m = true) :
    PSs (X.suite a ((a, oe) :: pn)) [.Return (some (.Tuple [.Constant (.str w) j p1, e] k1 p2)) p3] (fun D σ H => (n.isSome = true → σ[1]? = some (some (.ref a))) ∧ hkM K Γ w hk cls d H D.rt) := by
  refine PSs.from fun D σ H ⟨hσ, h⟩ => ?_
  cases hk with
  | none =>
    simp only [hkB] at hb
    split at hb
    · exact ⟨_, pss_one (ps_ret (pe_tup (pa_cons pe_str (pa_cons pe_non pa_nil (by rfl)) (by rfl)))), two_le, fun p hp => h p hp⟩
    · cases hb
  | fld f =>
    simp only [hkB] at hb
    split at hb
    · rename_i m x g _ _
      simp only [Bool.and_eq_true, decide_eq_true_eq] at hb
      obtain ⟨rfl, rfl⟩ := hb
      obtain ⟨C, dd, fs, v, e1, e2, e3, e4, e5, e6, e7⟩ := h
      obtain ⟨n1, n2, n3⟩ := hn _ rfl
      rw [hfl] at e3 e6
      refine ⟨_, pss_one (ps_ret (pe_tup (pa_cons pe_str (pa_cons (pe_xf (C := C) (by rw [hK]; exact e2) (by rw [hK]; exact e3) hz hf (pe_var (X := X.suite a ((a, oe) :: pn)) (i := 1) n1 n2 (nm_debug n3) (nm_cd n3))) pa_nil (by rfl)) (by rfl)))), ?_⟩
      exact ⟨.ref a, hσ rfl, rfl, e1, dd, fs, v, e4, e5, e6, two_le, fun p hp => e7 p hp⟩
    · cases hb
  | two f g =>
    simp only [hkB] at hb
    split at hb
    · simp only [Bool.and_eq_true, decide_eq_true_eq] at hb
      obtain ⟨⟨⟨rfl, rfl⟩, rfl⟩, rfl⟩ := hb
      obtain ⟨C, dd, fs, u, v, e1, e2, e3, e3', e4, e5, e6, e6', e7⟩ := h
      obtain ⟨n1, n2, n3⟩ := hn _ rfl
      rw [hfl] at e3 e3' e6 e6'
      have hv : ∀ p, PE (X.suite a ((a, oe) :: pn)) (.Name _ p) (tVar 1) := fun p => pe_var (X := X.suite a ((a, oe) :: pn)) (i := 1) n1 n2 (nm_debug n3) (nm_cd n3)
      refine ⟨_, pss_one (ps_ret (pe_tup (pa_cons pe_str (pa_cons (pe_tup (pa_cons (pe_xf (C := C) (by rw [hK]; exact e2) (by rw [hK]; exact e3) hz hf (hv _)) (pa_cons (pe_xf (C := C) (by rw [hK]; exact e2) (by rw [hK]; exact e3') hz hf (hv _)) pa_nil (by rfl)) (by rfl))) pa_nil (by rfl)) (by rfl)))), ?_⟩
      exact ⟨.ref a, hσ rfl, rfl, e1, dd, fs, u, e4, e5, e6, .ref a, hσ rfl, rfl, e1, dd, fs, v, e4, e5, e6', two_le, fun p hp => ⟨two_le, fun q hq => e7 p hp q hq⟩⟩
    · cases hb
def clsOf (K : PySem.W.Frag) (Γ : Gm) : List (Nat × Str × HK) → List ExceptHandler → List AHT.Cl
  | (c, w, hk) :: hs, .ExceptHandler _ n _ _ :: r => (.ref (Γ.nmC c), (match n with | some _ => some 1 | none => none), fun _ cls d D _ H => hkM K Γ w hk cls d H D.rt) :: clsOf K Γ hs r
  | _, _ => []
theorem hds_ok {T : Tab} {X : Cx} {K : PySem.W.Frag} {Γ : Gm} {N : List Str} {sc : Scope} (hK : X.K = K) (hN : X.N = N) (hs : X.env.scope = sc) (hC : ∀ c, (T.clsF c).isSome = true → X.mg (T.nm.cls c) = some (.ref (Γ.nmC c))) (hfl : ∀ f, Γ.nmF f = (T.flds[f]?).getD Str.empty) :
    ∀ (hsl : List (Nat × Str × HK)) (r : List ExceptHandler), hdsB T N sc hsl r = true → AHT.HdsA X r (clsOf K Γ hsl r)
  | [], [], _ => .nil
  | (c, w, hk) :: hsl, hd :: r, h => by
    unfold hdsB at h
    split at h
    · rename_i e1 e2; cases e1
    · rename_i c' w' hk' hs' x p1 n z j p2 e k1 p3 p4 p5 r' e1 e2
      cases e1; cases e2
      simp only [Bool.and_eq_true, decide_eq_true_eq] at h
      obtain ⟨⟨⟨⟨⟨⟨⟨h1, h2⟩, h3⟩, h4⟩, h5⟩, h6⟩, h7⟩, h8⟩ := h
      subst h1 h5
      have nm : Names X (T.nm.cls c) (.ref (Γ.nmC c)) := ⟨glb_ok (by rw [hs]; exact h3), nm_debug h4, .inl (hC c h2)⟩
      have rest := hds_ok hK hN hs hC hfl _ _ h8
      cases n with
      | none =>
        refine AHT.HdsA.only nm (fun a oe cls d pn hz hf => PSs.imp (suite_ok hK hfl h6 hz hf (fun m z => by cases z)) fun D σ H q => ⟨(fun z => by cases z), q⟩) rest
      | some m =>
        simp only [Bool.and_eq_true, decide_eq_true_eq] at h7
        obtain ⟨⟨g1, g2⟩, g3⟩ := h7
        refine AHT.HdsA.as (i := 1) nm (by rw [hN]; exact g1) (by rw [← hs] at g2; exact g2) (fun a oe cls d pn hz hf => PSs.imp (suite_ok hK hfl h6 hz hf (fun m' z => by cases z; exact ⟨by rw [hN]; exact g1, by rw [hs]; exact .inl g2, g3⟩)) fun D σ H q => ⟨fun _ => q.1, q.2⟩) rest
    · cases h
  | [], _ :: _, h => by unfold hdsB at h; cases h
  | _ :: _, [], h => by unfold hdsB at h; cases h
theorem hdl_to {K : PySem.W.Frag} {Γ : Gm} {D : Ends} {Wout : WX} : ∀ (hsl : List (Nat × Str × HK)) (r : List ExceptHandler), hsl.length = r.length → ∀ cls d σ H, hdlM K Γ hsl cls d H D.rt → AHT.wA K Wout D (clsOf K Γ hsl r) cls d σ H
  | [], _, _, cls, d, σ, H, h => h.elim
  | (c, w, hk) :: hsl, [], hl, _, _, _, _, _ => by cases hl
  | (c, w, hk) :: hsl, .ExceptHandler t n b p :: r, hl, cls, d, σ, H, h => by
    obtain ⟨b, h1, h2, h3⟩ := h
    have ih := hdl_to (Wout := Wout) (D := D) (K := K) (Γ := Γ) hsl r (by simpa using hl) cls d σ H
    cases n with
    | none => exact ⟨b, h1, fun hb a _ => h2 hb, fun hb => ih (h3 hb)⟩
    | some m => exact ⟨b, h1, fun hb a _ => h2 hb, fun hb => ih (h3 hb)⟩
theorem hdsB_len {T : Tab} {N : List Str} {sc : Scope} : ∀ {hsl : List (Nat × Str × HK)} {r : List ExceptHandler}, hdsB T N sc hsl r = true → hsl.length = r.length
  | [], [], _ => rfl
  | (c, w, hk) :: hsl, hd :: r, h => by
    unfold hdsB at h
    split at h
    · rename_i e1 e2; cases e1
    · rename_i e1 e2
      cases e1; cases e2
      rw [Bool.and_eq_true] at h
      simp [hdsB_len h.2]
    · cases h
  | [], _ :: _, h => by unfold hdsB at h; cases h
  | _ :: _, [], h => by unfold hdsB at h; cases h
theorem hdsB_cls {T : Tab} {N : List Str} {sc : Scope} : ∀ {hsl : List (Nat × Str × HK)} {r : List ExceptHandler}, hdsB T N sc hsl r = true → ∀ q ∈ hsl, (T.clsF q.1).isSome = true
  | [], [], _, q, hq => by cases hq
  | (c, w, hk) :: hsl, hd :: r, h, q, hq => by
    unfold hdsB at h
    split at h
    · rename_i e1 e2; cases e1
    · rename_i e1 e2
      cases e1; cases e2
      simp only [Bool.and_eq_true, decide_eq_true_eq] at h
      obtain ⟨⟨⟨⟨⟨⟨⟨h1, h2⟩, h3⟩, h4⟩, h5⟩, h6⟩, h7⟩, h8⟩ := h
      rcases List.mem_cons.mp hq with e | hq
      · rw [e]; exact h2
      · exact hdsB_cls h8 q hq
    · cases h
  | [], _ :: _, h, _, _ => by unfold hdsB at h; cases h
  | _ :: _, [], h, _, _ => by unfold hdsB at h; cases h
theorem metB_gives {T : Tab} {m : MRec} {X : Cx} {K : PySem.W.Frag} {Γ : Gm} {x : Str} {g : Addr} {cdg : Value} {q : Str} (hm : metB T m = true) (hK : X.K = K) (nd : m.N.Nodup) (hC : ∀ c, (T.clsF c).isSome = true → X.mg (T.nm.cls c) = some (.ref (Γ.nmC c))) (hfl : ∀ f, Γ.nmF f = (T.flds[f]?).getD Str.empty) (h0 : m.N[0]? = some m.par) :
    LamX.GivesTo X m.N x m.d.scope g cdg m.d.body m.par q (TTm K Γ m.told m.hs) := by
  subst hK
  intro f c' s H Q tl act hc h
  unfold metB at hm
  split at hm
  · rename_i z j p1 a p2 p3 k1 p4 p5 hd hds p6 hbody
    simp only [Bool.and_eq_true, decide_eq_true_eq] at hm
    obtain ⟨⟨m1, m2⟩, m3⟩ := hm
    subst m1 m2
    rw [hbody]
    have hst : (L2.start m.N [V.ref f])[0]? = some (some (V.ref f)) := by
      unfold L2.start
      rfl
    refine ⟨_, pss_one (AHT.ps_try_A (X := (cxOf C8.CX0 X.prog X.w X.K X.mg X.base m.N x m.d.scope g cdg X.A X.stack s H C8.E0).nox) (Wout := fun _ _ _ _ => False)
        (tb := fun W D σ H => ∃ Ech : XK, (∀ cls d σ' H', Ech cls d H' → W cls d σ' H') ∧ σ[0]? = some (some (.ref f)) ∧ H c' = some (LamX.CodeO c' q) ∧ tl Ech H fun v H' => ∀ p, H' p = none → D.rt (.ref p) (upd H' p (.tup [.str m.told, v])))
        rfl rfl nd LamX.takes0 (fun W pn xe tk _ => ?_) (hds_ok (X := (cxOf C8.CX0 X.prog X.w X.K X.mg X.base m.N x m.d.scope g cdg X.A X.stack s H C8.E0).nox) (T := T) (K := X.K) (Γ := Γ) (N := m.N) (sc := m.d.scope) rfl rfl rfl hC hfl m.hs _ m3)), ?_⟩
    · refine ⟨fun pins s' σ H' D I h' => ?_⟩
      obtain ⟨Ech, hW, h1, h2, h3⟩ := h'
      have hp := act W pn xe Ech p2 p3 tk hW
      have hq := pss_one (ps_ret (pos := p5) (pe_tup (pos := p4) (x1 := k1) (pa_cons (pe_str (X := ((cxOf C8.CX0 X.prog X.w X.K X.mg X.base m.N x m.d.scope g cdg X.A X.stack s H C8.E0).nox).tr pn xe) (x := m.told) (j := j) (pos := p1)) (pa_cons hp pa_nil (by rfl)) (by rfl))))
      have e : (fun (v : V) (H1 : Hp) => ([V.str m.told, v].length ≤ sizeLine ∧ ∀ p, H1 p = none → D.rt (.ref p) (upd H1 p (.tup [.str m.told, v])))) = fun v H1 => ∀ p, H1 p = none → D.rt (.ref p) (upd H1 p (.tup [.str m.told, v])) := by
        funext v H1
        exact propext ⟨And.right, fun h => ⟨two_le, h⟩⟩
      rw [← e] at h3
      exact hq.run pins s' σ H' D I ⟨h1, h2, h3⟩
    · exact ⟨fun cls d H' => hdlM X.K Γ m.hs cls d H' Q, fun cls d σ' H' q => hdl_to (K := X.K) (Γ := Γ) (D := { nx := fun _ H' => Q .non H', rt := Q }) (Wout := fun _ _ _ _ => False) m.hs _ (hdsB_len m3) cls d σ' H' q, hst, hc, h⟩
  · cases hm
theorem met_of {T : Tab} {prog : Program} {w : World} {K : PySem.W.Frag} {mg : Str → Option Value} {h base : Heap} (okM : T.mets.all (MRec.ok T) = true) (S : SaysL T K h) (hK : K.In base) (hns : base.Ns mainGlobals mg) (f : Nat) (told : Str) (hs : List (Nat × Str × HK)) (hf : T.prog.met f = some (told, hs)) :
    (∀ q ∈ hs, (T.prog.cls q.1).isSome = true) ∧ MetOk prog w K mg base (gam T K h) (T.nm.fn f) told hs := by
  have hf : (if (T.recF f).isSome then none else match T.metF f with | some m => some (m.told, m.hs) | none => none) = some (told, hs) := hf
  split at hf
  · cases hf
  · rename_i hlt
    cases q : T.metF f with
    | none => rw [q] at hf; cases hf
    | some m =>
      rw [q] at hf
      cases hf
      have hm : m ∈ T.mets := List.mem_of_find?_eq_some q
      have ok := List.all_eq_true.mp okM m hm
      unfold MRec.ok at ok
      simp only [Bool.and_eq_true, decide_eq_true_eq] at ok
      obtain ⟨⟨⟨⟨⟨⟨⟨⟨⟨a1, a2⟩, a3⟩, a4⟩, a5⟩, a6⟩, a7⟩, a8⟩, a9⟩, a10⟩ := ok
      have hnm : T.nm.fn f = m.d.name := by
        show T.fn f = _
        unfold Tab.fn
        have : T.recF f = none := by
          cases z : T.recF f with
          | none => rfl
          | some r => exact absurd (by rw [z]; rfl) hlt
        rw [this, q]
      have hfacts : ∀ d ∈ T.defs, d.at_ = (d.name, none) → mg d.name = some (.ref (He.ga K d.name)) := fun d hd e => He.glo_ok hK hns (S.facts _ (by
        unfold Tab.facts
        refine List.mem_append_left _ (List.mem_append_left _ (List.mem_filterMap.mpr ⟨d, hd, ?_⟩))
        rw [e]))
      have hd : m.d ∈ T.defs := by unfold Tab.defs; simp; exact .inr (.inr ⟨m, hm, rfl⟩)
      obtain ⟨fd, F⟩ := S.defs m.d hd
      have e1 : m.d.dvs K = [] := by unfold He.DefD.dvs; rw [isEmpty_ok a5]; rfl
      have e2 : m.d.kws K = [] := by unfold He.DefD.kws; rw [isEmpty_ok a6]; rfl
      rw [e1, e2] at F
      have kp := F.kp
      obtain ⟨oc, od, dV, kV, doc, pm, an, cdv, ct, osl, e, lk, hcd, hdv, _⟩ := F.ex
      have hdv : dV = .none := by
        rcases hdv with ⟨_, z⟩ | ⟨z, _⟩
        · exact z
        · exact absurd rfl z
      subst hdv e
      obtain ⟨args, p1, p2, p3⟩ := parC_ok a4
      have hfa : He.fAd K m.d.at_ = He.ga K m.d.name := by rw [a1]; rfl
      rw [hfa] at lk kp
      rw [a2] at lk hcd
      have hclsl : ∀ c, (T.clsF c).isSome = true → (T.prog.cls c).isSome = true := fun c hc => by
        show (match T.clsF c with | some c => some c.fs | none => none).isSome = true
        cases z : T.clsF c with
        | none => rw [z] at hc; cases hc
        | some r => rfl
      have hhs : ∀ q ∈ m.hs, (T.clsF q.1).isSome = true := fun q hq => by
        unfold metB at a10
        split at a10
        · rw [Bool.and_eq_true] at a10
          exact hdsB_cls a10.2 q hq
        · cases a10
      refine ⟨fun q hq => hclsl q.1 (hhs q hq), ⟨He.ga K m.d.name, m.par, oc, od, m.d.params, m.d.body, m.d.scope, .none, kV, doc, pm, an, cdv, ct, osl, m.N, by rw [hnm]; exact hfacts m.d hd a1, kp, by rw [hnm]; exact lk, by rw [hnm]; exact hcd, ?_, C8.fnScope_by a3, a7, vis_ok a8, nm_debug a9, nm_cd a9, fun X q hp hw hKx hmg hbase => ?_⟩⟩
      · refine Binds.all fun us hl => ?_
        rw [p1, ← p2]
        exact bind_plain _ _ args _ _ _ _ _ _ _ _ us (by rw [p2]; exact p3) (by rw [p2]; exact hl)
      · refine metB_gives a10 hKx (C8.fnScope_by a3).nd (fun c hc => ?_) (fun _ => rfl) a7
        rw [hmg]
        cases z : T.clsF c with
        | none => rw [z] at hc; cases hc
        | some r =>
          have hnc : T.nm.cls c = r.name := by show (match T.clsF c with | some c => c.name | none => Str.empty) = _; rw [z]
          show mg (T.nm.cls c) = some (.ref (He.ga K (T.nm.cls c)))
          rw [hnc]
          exact He.glo_ok hK hns (S.facts _ (by
            unfold Tab.facts
            exact List.mem_append_left _ (List.mem_append_right _ (List.mem_map.mpr ⟨r, List.mem_of_find?_eq_some z, rfl⟩))))
end
end AH

set_option Elab.async false
set_option linter.all false
set_option maxRecDepth 100000
set_option maxHeartbeats 400000
/-! AHW: what a run is to reach. -/
namespace AH
open PySem
abbrev QV := AV → AHp → Prop
abbrev QX := Nat → List (Nat × AV) → AHp → Prop
def okR {α : Type} (r : Rs α) (Q : α → AHp → Prop) (X : QX) : Prop := match r with
  | .ok v h => Q v h
  | .ex c fs h => X c fs h
  | .no => False
def okS (r : SRs) (N : Sl → AHp → Prop) (R : QV) (X : QX) : Prop := match r with
  | .nx σ h => N σ h
  | .rt v h => R v h
  | .ex c fs h => X c fs h
  | .no => False
def noX : QX := fun _ _ _ => False
section
variable {α β : Type} {X : QX} {N : Sl → AHp → Prop} {R : QV}
@[simp] theorem okR_ok {v : α} {h : AHp} {Q : α → AHp → Prop} : okR (.ok v h) Q X = Q v h := rfl
@[simp] theorem okR_ex {c fs} {h : AHp} {Q : α → AHp → Prop} : okR (.ex c fs h : Rs α) Q X = X c fs h := rfl
@[simp] theorem okR_no {Q : α → AHp → Prop} : okR (.no : Rs α) Q X = False := rfl
@[simp] theorem okS_nx {σ h} : okS (.nx σ h) N R X = N σ h := rfl
@[simp] theorem okS_rt {v h} : okS (.rt v h) N R X = R v h := rfl
@[simp] theorem okS_ex {c fs h} : okS (.ex c fs h) N R X = X c fs h := rfl
@[simp] theorem okS_no : okS .no N R X = False := rfl
@[simp] theorem okR_bind {r : Rs α} {f : α → AHp → Rs β} {Q : β → AHp → Prop} : okR (r.bind f) Q X = okR r (fun v h => okR (f v h) Q X) X := by cases r <;> rfl
@[simp] theorem okS_sbind {r : Rs α} {f : α → AHp → SRs} : okS (r.sbind f) N R X = okR r (fun v h => okS (f v h) N R X) X := by cases r <;> rfl
@[simp] theorem okS_seq {r : SRs} {f : Sl → AHp → SRs} : okS (r.seq f) N R X = okS r (fun σ h => okS (f σ h) N R X) R X := by cases r <;> rfl
@[simp] theorem okR_fin {r : SRs} {Q : QV} : okR r.fin Q X = okS r (fun _ h => Q .non h) Q X := by cases r <;> rfl
theorem okR_noex {r : Rs α} {Q : α → AHp → Prop} (h : okR r Q noX) : okR r.noex Q X := by
  cases r with
  | ok v h' => exact h
  | ex c fs h' => exact h.elim
  | no => exact h
theorem okR_mono {r : Rs α} {Q Q' : α → AHp → Prop} (h : okR r Q X) (f : ∀ v h, Q v h → Q' v h) : okR r Q' X := by
  cases r with
  | ok v h' => exact f _ _ h
  | ex c fs h' => exact h
  | no => exact h
theorem okR_noX {r : Rs α} {Q : α → AHp → Prop} (h : okR r Q noX) : okR r Q X := by
  cases r with
  | ok v h' => exact h
  | ex c fs h' => exact h.elim
  | no => exact h
theorem okS_mono {r : SRs} {N' : Sl → AHp → Prop} {R' : QV} (h : okS r N R X) (f : ∀ v h, N v h → N' v h) (g : ∀ v h, R v h → R' v h) : okS r N' R' X := by
  cases r with
  | nx v h' => exact f _ _ h
  | rt v h' => exact g _ _ h
  | ex c fs h' => exact h
  | no => exact h
theorem okS_noX {r : SRs} (h : okS r N R noX) : okS r N R X := by
  cases r with
  | nx v h' => exact h
  | rt v h' => exact h
  | ex c fs h' => exact h.elim
  | no => exact h
/-- a loop over what is walked -/
theorem okS_for {t : It} {turn : List AV → Sl → AHp → SRs} (I : Nat → Sl → AHp → Prop) (hs : ∀ i σ h, i < t.len → I i σ h → ∃ vs, t.item i h = some vs ∧ okS (turn vs σ h) (I (i + 1)) R X) (he : ∀ σ h, I t.len σ h → t.fin h = true ∧ N σ h) : ∀ (m i : Nat) (σ : Sl) (h : AHp), i + m = t.len → I i σ h → okS (forGo t turn m i σ h) N R X
  | 0, i, σ, h, e, q => by
    have : i = t.len := by omega
    subst this
    obtain ⟨a, b⟩ := he σ h q
    unfold forGo
    rw [if_pos a]
    exact b
  | m + 1, i, σ, h, e, q => by
    obtain ⟨vs, a, b⟩ := hs i σ h (by omega) q
    unfold forGo
    simp only [a, okS_seq]
    exact okS_mono b (fun σ' h' q' => okS_for I hs he m (i + 1) σ' h' (by omega) q') fun _ _ q => q
theorem okR_comp {t : It} {turn : List AV → AHp → Rs (Option AV)} {Q : List AV → AHp → Prop} (I : Nat → List AV → AHp → Prop)
    (hs : ∀ i acc h, i < t.len → I i acc h → ∃ vs, t.item i h = some vs ∧ okR (turn vs h) (fun o h' => match o with | some y => acc.length < 16777216 ∧ I (i + 1) (acc ++ [y]) h' | none => I (i + 1) acc h') noX)
    (he : ∀ acc h, I t.len acc h → t.fin h = true ∧ Q acc h) : ∀ (m i : Nat) (acc : List AV) (h : AHp), i + m = t.len → I i acc h → okR (compGo t turn m i acc h) Q X
  | 0, i, acc, h, e, q => by
    have : i = t.len := by omega
    subst this
    obtain ⟨a, b⟩ := he acc h q
    unfold compGo
    rw [if_pos a]
    exact b
  | m + 1, i, acc, h, e, q => by
    obtain ⟨vs, a, b⟩ := hs i acc h (by omega) q
    unfold compGo
    simp only [a, okR_bind]
    refine okR_noex (okR_mono b fun o h' q' => ?_)
    cases o with
    | none => exact okR_comp I hs he m (i + 1) acc h' (by omega) q'
    | some y =>
      show okR (if Nat.blt acc.length 16777216 = true then compGo t turn m (i + 1) (acc ++ [y]) h' else .no) Q X
      rw [if_pos (show Nat.blt acc.length 16777216 = true from Nat.ble_eq_true_of_le q'.1)]
      exact okR_comp I hs he m (i + 1) (acc ++ [y]) h' (by omega) q'.2
/-- a while: what is left to do goes down -/
theorem okS_whl {c : Sl → AHp → Rs Bool} {turn : Sl → AHp → SRs} (I : Nat → Sl → AHp → Prop) (hs : ∀ m σ h, I m σ h → okR (c σ h) (fun b h1 => if b = true then 0 < m ∧ okS (turn σ h1) (I (m - 1)) R X else N σ h1) X) : ∀ (F m : Nat) (σ : Sl) (h : AHp), m < F → I m σ h → okS (whlGo c turn F σ h) N R X
  | 0, m, σ, h, e, q => by omega
  | F + 1, m, σ, h, e, q => by
    unfold whlGo
    simp only [okS_sbind]
    refine okR_mono (hs m σ h q) fun b h1 q1 => ?_
    cases b with
    | false => simpa using q1
    | true =>
      simp only [if_true] at q1 ⊢
      simp only [okS_seq]
      exact okS_mono q1.2 (fun σ' h' q' => okS_whl I hs F (m - 1) σ' h' (by omega) q') fun _ _ q => q
end
/-- heaps: all but some stays -/
def Keep (A : Nat → Prop) (h h' : AHp) : Prop := h.n ≤ h'.n ∧ ∀ i, i < h.n → ¬ A i → h'.get i = h.get i
theorem Keep.refl {A : Nat → Prop} {h : AHp} : Keep A h h := ⟨Nat.le_refl _, fun _ _ _ => rfl⟩
theorem Keep.trans {A : Nat → Prop} {h h1 h2 : AHp} (a : Keep A h h1) (b : Keep A h1 h2) : Keep A h h2 := ⟨Nat.le_trans a.1 b.1, fun i hi n => (b.2 i (Nat.lt_of_lt_of_le hi a.1) n).trans (a.2 i hi n)⟩
theorem Keep.mono {A B : Nat → Prop} {h h' : AHp} (a : Keep A h h') (f : ∀ i, A i → B i) : Keep B h h' := ⟨a.1, fun i hi n => a.2 i hi fun z => n (f i z)⟩
theorem Keep.add {A : Nat → Prop} {h : AHp} {o : AO} : Keep A h (h.add o) := ⟨by simp, fun i hi _ => by rw [AHp.get_add, if_neg (Nat.ne_of_lt hi)]⟩
theorem Keep.set {A : Nat → Prop} {h : AHp} {a : Nat} {o : AO} (ha : A a) : Keep A h (h.set a o) := ⟨by simp, fun i _ n => by rw [AHp.get_set, if_neg (fun z : i = a => n (by rw [z]; exact ha))]⟩
/-- a program's def -/
def Has (P : Prog) (f n k : Nat) (b : B) : Prop := P.body f = some (n, k, b)
theorem okR_run {P : Prog} {F d f n k : Nat} {b : B} {vs : List AV} {h : AHp} {Q : QV} {X : QX} (hb : Has P f n k b) (hl : vs.length = k) (q : okS (evB ⟨P, run P F d, F⟩ b (start n vs) h) (fun _ h => Q .non h) Q X) : okR (run P F (d + 1) f vs h) Q X := by
  unfold run runB
  unfold Has at hb
  simp only [hb]
  rw [if_pos hl, okR_fin]
  exact q
end AH

set_option Elab.async false
set_option linter.all false
set_option maxRecDepth 100000
set_option maxHeartbeats 400000
/-! AHS: steps. -/
namespace AH
open PySem
section
variable {C : Cf} {σ : Sl} {h : AHp} {Q : QV} {X : QX} {N : Sl → AHp → Prop} {R : QV}
@[simp] theorem e_var {i : Nat} : okR (evE C (.var i) σ h) Q X = okR (match σ[i]? with | some (some v) => .ok v h | _ => .no) Q X := rfl
@[simp] theorem e_int {i : Int} : okR (evE C (.int i) σ h) Q X = Q (.int i) h := rfl
@[simp] theorem e_bl {b : Bool} : okR (evE C (.bl b) σ h) Q X = Q (.bl b) h := rfl
@[simp] theorem e_non : okR (evE C .non σ h) Q X = Q .non h := rfl
@[simp] theorem e_str {x : Str} : okR (evE C (.str x) σ h) Q X = Q (.str x) h := rfl
@[simp] theorem e_bin {o : BOp} {a b : E} : okR (evE C (.bin o a b) σ h) Q X = okR (evE C a σ h) (fun v h1 => okR (evE C b σ h1) (fun w h2 => okR (binA o h2 v w) Q X) X) X := by simp only [evE, okR_bind]
@[simp] theorem e_cmp {o : COp} {a b : E} : okR (evE C (.cmp o a b) σ h) Q X = okR (evE C a σ h) (fun v h1 => okR (evE C b σ h1) (fun w h2 => okR (cmpA o h2 v w) Q X) X) X := by simp only [evE, okR_bind]
@[simp] theorem e_sub {a b : E} : okR (evE C (.sub a b) σ h) Q X = okR (evE C a σ h) (fun v h1 => okR (evE C b σ h1) (fun w h2 => okR (ixA h2 v w) Q X) X) X := by simp only [evE, okR_bind]
@[simp] theorem e_call {f : Nat} {es : L} : okR (evE C (.call f es) σ h) Q X = okR (evL C es σ h) (fun vs h1 => okR (C.callf f vs h1) Q X) X := by simp only [evE, okR_bind]
@[simp] theorem e_blt {b : Bi} {es : L} : okR (evE C (.blt b es) σ h) Q X = okR (evL C es σ h) (fun vs h1 => okR (bltA b h1 vs) Q X) X := by simp only [evE, okR_bind]
@[simp] theorem e_lst {es : L} : okR (evE C (.lst es) σ h) Q X = okR (evL C es σ h) (fun vs h1 => if isz vs.length then Q (.ref h1.n) (h1.add (.lst vs)) else False) X := by
  simp only [evE, okR_bind]
  congr 1; funext vs h1; split <;> rfl
@[simp] theorem e_tup {es : L} : okR (evE C (.tup es) σ h) Q X = okR (evL C es σ h) (fun vs h1 => if isz vs.length then Q (.ref h1.n) (h1.add (.tup vs)) else False) X := by
  simp only [evE, okR_bind]
  congr 1; funext vs h1; split <;> rfl
@[simp] theorem l_nl {Q : List AV → AHp → Prop} : okR (evL C .nil σ h) Q X = Q [] h := rfl
@[simp] theorem l_cs {e : E} {r : L} {Q : List AV → AHp → Prop} : okR (evL C (.cons e r) σ h) Q X = okR (evE C e σ h) (fun v h1 => okR (evL C r σ h1) (fun vs h2 => Q (v :: vs) h2) X) X := by simp only [evL, okR_bind, okR_ok]
@[simp] theorem e_and {a b : E} : okR (evE C (.and a b) σ h) Q X = okR (evE C a σ h) (fun v h1 => okR (match truth h1 v with | some true => evE C b σ h1 | some false => .ok v h1 | none => .no) Q X) X := by simp only [evE, okR_bind] <;> rfl
@[simp] theorem e_or {a b : E} : okR (evE C (.or a b) σ h) Q X = okR (evE C a σ h) (fun v h1 => okR (match truth h1 v with | some true => .ok v h1 | some false => evE C b σ h1 | none => .no) Q X) X := by simp only [evE, okR_bind] <;> rfl
@[simp] theorem e_not {a : E} : okR (evE C (.not a) σ h) Q X = okR (truthR (evE C a σ h)) (fun b h1 => Q (.bl (!b)) h1) X := by simp only [evE, okR_bind, okR_ok]
@[simp] theorem e_ite {c a b : E} : okR (evE C (.ite c a b) σ h) Q X = okR (truthR (evE C c σ h)) (fun t h1 => if t then okR (evE C a σ h1) Q X else okR (evE C b σ h1) Q X) X := by
  simp only [evE, okR_bind]
  congr 1; funext t h1; split <;> rfl
@[simp] theorem r_truth {r : Rs AV} {Q : Bool → AHp → Prop} : okR (truthR r) Q X = okR r (fun v h1 => match truth h1 v with | some b => Q b h1 | none => False) X := by
  unfold truthR
  simp only [okR_bind]
  congr 1; funext v h1; cases truth h1 v <;> rfl
@[simp] theorem e_meth {m : Me} {o : E} {es : L} : okR (evE C (.meth m o es) σ h) Q X = okR (evE C o σ h) (fun v h1 => if mOk m h1 v then okR (evL C es σ h1) (fun vs h2 => okR (methA m h2 v vs) Q X) X else False) X := by
  simp only [evE, okR_bind]
  congr 1; funext v h1; split
  · simp only [okR_bind]
  · rfl
@[simp] theorem s_asg' {i : Nat} {e : E} : okS (evS C (.asg i e) σ h) N R X = okR (evE C e σ h) (fun v h1 => N (σ.set i (some v)) h1) X := by simp only [evS, okS_sbind, okS_nx]
@[simp] theorem s_ex' {e : E} : okS (evS C (.ex e) σ h) N R X = okR (evE C e σ h) (fun _ h1 => N σ h1) X := by simp only [evS, okS_sbind, okS_nx]
@[simp] theorem s_ret' {e : E} : okS (evS C (.ret e) σ h) N R X = okR (evE C e σ h) R X := by simp only [evS, okS_sbind, okS_rt]
@[simp] theorem s_setix' {o i e : E} : okS (evS C (.setix o i e) σ h) N R X = okR (evE C e σ h) (fun v h1 => okR (evE C o σ h1) (fun a h2 => okR (evE C i σ h2) (fun w h3 => match setIxA h3 a w v with | some h4 => N σ h4 | none => False) X) X) X := by
  simp only [evS, okS_sbind]
  congr 1; funext v h1; congr 1; funext a h2; congr 1; funext w h3; cases setIxA h3 a w v <;> rfl
@[simp] theorem s_ite' {c : E} {a b : B} : okS (evS C (.ite c a b) σ h) N R X = okR (truthR (evE C c σ h)) (fun t h1 => if t then okS (evB C a σ h1) N R X else okS (evB C b σ h1) N R X) X := by
  simp only [evS, okS_sbind]
  congr 1; funext t h1; split <;> rfl
theorem b_cs {s : S} {r : B} : okS (evB C (.cons s r) σ h) N R X = okS (evS C s σ h) (fun σ1 h1 => okS (evB C r σ1 h1) N R X) R X := by simp only [evB, okS_seq]
theorem b_nl : okS (evB C .nil σ h) N R X = N σ h := rfl
end
/-! ### ints in a list -/
theorem rdAll_ints {h : AHp} {d : Nat} : ∀ cells : List Int, rdAll (rd h d) (cells.map .int) = some (cells.map .int)
  | [] => rfl
  | c :: r => by
    show (match rd h d (.int c) with | some x => (match rdAll (rd h d) (r.map .int) with | some ds => some (x :: ds) | none => none) | none => none) = _
    rw [rdAll_ints r]
    cases d <;> rfl
theorem eqv_ints {h : AHp} {c c' : Nat} {cells cells' : List Int} (g : h.get c = some (.lst (cells.map .int))) (g' : h.get c' = some (.lst (cells'.map .int))) : eqv h (.ref c) (.ref c') = some (eqdAll (cells.map .int) (cells'.map .int)) := by
  unfold eqv
  simp only [rd, g, g', rdAll_ints, Option.map_some]
  rfl
theorem eqd_nil {cells : List Int} : eqdAll (cells.map PyData.int) [] = cells.isEmpty := by cases cells <;> rfl
theorem eqv_int {h : AHp} {i j : Int} : eqv h (.int i) (.int j) = some (i == j) := rfl
/-! ### operations on ints -/
section
variable {h : AHp} {Q : QV} {X : QX} {i j : Int}
@[simp] theorem o_add : okR (binA .add h (.int i) (.int j)) Q X = Q (.int (i + j)) h := rfl
@[simp] theorem o_sub : okR (binA .sub h (.int i) (.int j)) Q X = Q (.int (i - j)) h := rfl
theorem o_mod (hj : 0 < j) : okR (binA .mod h (.int i) (.int j)) Q X = Q (.int (i % j)) h := by
  show okR (if decide (0 < j) = true then Rs.ok (.int (i % j)) h else .no) Q X = _
  rw [if_pos (decide_eq_true hj)]; rfl
theorem o_fdiv (hj : 0 < j) (hj2 : j < 1073741824) : okR (binA .fdiv h (.int i) (.int j)) Q X = Q (.int (i / j)) h := by
  show okR (if (decide (0 < j) && decide (j < 1073741824)) = true then Rs.ok (.int (i / j)) h else .no) Q X = _
  rw [if_pos (by rw [decide_eq_true hj, decide_eq_true hj2]; rfl)]; rfl
theorem o_mul (hc : small64 i = true ∨ small64 j = true) : okR (binA .mul h (.int i) (.int j)) Q X = Q (.int (i * j)) h := by
  show okR (if (small64 i || small64 j) = true then Rs.ok (.int (i * j)) h else .no) Q X = _
  rw [if_pos (by rw [Bool.or_eq_true]; exact hc)]; rfl
theorem o_pow (h0 : 0 ≤ j) (h1 : j ≤ 1000000) (h2 : i.natAbs < 18446744073709551616) : okR (binA .pow h (.int i) (.int j)) Q X = Q (.int (i ^ j.toNat)) h := by
  show okR (if (decide (0 ≤ j) && decide (j ≤ 1000000) && decide (i.natAbs < 18446744073709551616)) = true then Rs.ok (.int (i ^ j.toNat)) h else .no) Q X = _
  rw [if_pos (by rw [decide_eq_true h0, decide_eq_true h1, decide_eq_true h2]; rfl)]; rfl
theorem small_ok (h1 : -18446744073709551616 < i) (h2 : i < 18446744073709551616) : small64 i = true := by
  unfold small64
  rw [decide_eq_true h1, decide_eq_true h2]; rfl
@[simp] theorem o_int : okR (bltA .int h [.int i]) Q X = Q (.int i) h := rfl
@[simp] theorem o_eq : okR (cmpA .eq h (.int i) (.int j)) Q X = Q (.bl (i == j)) h := rfl
@[simp] theorem o_ne : okR (cmpA .ne h (.int i) (.int j)) Q X = Q (.bl (!(i == j))) h := rfl
@[simp] theorem o_lt : okR (cmpA .lt h (.int i) (.int j)) Q X = Q (.bl (decide (i < j))) h := rfl
@[simp] theorem o_le : okR (cmpA .le h (.int i) (.int j)) Q X = Q (.bl (decide (i ≤ j))) h := rfl
@[simp] theorem o_gt : okR (cmpA .gt h (.int i) (.int j)) Q X = Q (.bl (decide (j < i))) h := rfl
@[simp] theorem o_ge : okR (cmpA .ge h (.int i) (.int j)) Q X = Q (.bl (decide (j ≤ i))) h := rfl
@[simp] theorem tr_bl {b : Bool} : truth h (.bl b) = some b := rfl
theorem o_ixl {a : Nat} {xs : List AV} {y : AV} (g : h.get a = some (.lst xs)) (e : L2.atI xs i = some y) : okR (ixA h (.ref a) (.int i)) Q X = Q y h := by
  unfold ixA
  simp only [g, e]
  rfl
theorem o_setl {a : Nat} {xs : List AV} {v : AV} {k : Nat} (g : h.get a = some (.lst xs)) (e : L2.ixN xs.length i = some k) : setIxA h (.ref a) (.int i) v = some (h.set a (.lst (xs.set k v))) := by
  unfold setIxA
  simp only [g, e]
end
end AH

set_option Elab.async false
set_option linter.all false
set_option maxRecDepth 100000
set_option maxHeartbeats 400000
/-! AHD: _law_draw. -/
namespace AH
open PySem L2
def drawTail : B := (.cons (.ite (.cmp .gt (.sub (.var 0) (.int 1)) (.int 0)) (.cons (.asg 4 (.bin .mod (.blt .int (.cons (.sub (.var 0) (.int 1)) .nil)) (.var 1)))
  (.cons (.setix (.var 0) (.int 1) (.bin .fdiv (.sub (.var 0) (.int 1)) (.var 1)))
  (.cons (.ret (.var 4))
  .nil))) .nil)
  (.cons (.asg 2 (.bin .mod (.blt .int (.cons (.bin .pow (.bin .add (.bin .add (.sub (.var 0) (.int 3)) (.bin .mul (.int 9161) (.sub (.var 0) (.int 2)))) (.int 190027)) (.int 5)) .nil)) (.int 2147483629)))
  (.cons (.ret (.bin .mod (.bin .mod (.blt .int (.cons (.bin .pow (.bin .add (.bin .add (.bin .mul (.var 2) (.int 63029)) (.bin .mul (.int 74017) (.sub (.var 0) (.int 2)))) (.int 61)) (.int 3)) .nil)) (.int 1000000007)) (.var 1)))
  .nil)))
def drawCond : E := (.and (.cmp .eq (.sub (.var 0) (.int 1)) (.int 0)) (.cmp .ne (.sub (.var 0) (.int 0)) (.lst .nil)))
def drawBody : B := (.cons (.asg 3 (.meth .popAt (.sub (.var 0) (.int 0)) (.cons (.int 0) .nil)))
  (.cons (.setix (.var 0) (.int 3) (.bin .mod (.blt .int (.cons (.bin .add (.bin .add (.bin .mul (.sub (.var 0) (.int 3)) (.int 72103)) (.var 3)) (.int 43)) .nil)) (.int 2147483647)))
  (.cons (.setix (.var 0) (.int 1) (.ite (.cmp .ge (.var 3) (.bin .pow (.int 10) (.int 18))) (.var 3) (.int 0)))
  .nil)))
/-- _law_draw -/
def b109 : B := (.cons (.setix (.var 0) (.int 2) (.bin .add (.sub (.var 0) (.int 2)) (.int 1)))
  (.cons (.whl drawCond drawBody) drawTail))
/-- a stream: its list s, the cells' list c -/
def StrOk (h : AHp) (s c : Nat) (B : Nat) : Prop := ∃ (cells : List Int) (a b e : Int), h.get s = some (.lst [.ref c, .int a, .int b, .int e]) ∧ h.get c = some (.lst (cells.map .int)) ∧ c ≠ s ∧ s < h.n ∧ c < h.n ∧ cells.length ≤ 900 ∧ 0 ≤ a ∧ 0 ≤ b ∧ b ≤ B ∧ 0 ≤ e ∧ e < 2147483647
def isStr (s c : Nat) (i : Nat) : Prop := i = s ∨ i = c
section
variable {P : Prog} {cf : Nat → List AV → AHp → Rs AV} {F s c : Nat} {h : AHp} {a b e many : Int} {o : Option AV} {Q : QV} {X : QX} {N : Sl → AHp → Prop}
theorem draw_tail (j2 : h.get s = some (.lst [.ref c, .int a, .int b, .int e])) (h0 : 0 < many) (h1 : many < 1073741824) (ha : 0 ≤ a) (hb : 0 ≤ b) (hB : b < 1099511627777) (he : 0 ≤ e) (he' : e < 2147483647)
    (q : ∀ x a' h', 0 ≤ x → x < many → 0 ≤ a' → h'.n = h.n → (∀ i, h'.get i = if i = s then some (.lst [.ref c, .int a', .int b, .int e]) else h.get i) → Q (.int x) h') :
    okS (evB ⟨P, cf, F⟩ drawTail [some (.ref s), some (.int many), none, o, none] h) N Q X := by
  have x1 : ∀ {Q : QV} {X}, okR (ixA h (.ref s) (.int 1)) Q X = Q (.int a) h := o_ixl j2 rfl
  have x2 : ∀ {Q : QV} {X}, okR (ixA h (.ref s) (.int 2)) Q X = Q (.int b) h := o_ixl j2 rfl
  have x3 : ∀ {Q : QV} {X}, okR (ixA h (.ref s) (.int 3)) Q X = Q (.int e) h := o_ixl j2 rfl
  unfold drawTail
  rw [b_cs]
  by_cases hp : 0 < a
  · simp [x1, hp]
    rw [b_cs]
    simp [x1, o_mod h0]
    rw [b_cs]
    simp [x1, o_fdiv h0 h1, o_setl j2 (show ixN 4 1 = some 1 from rfl)]
    rw [b_cs]
    simp
    refine q _ (a / many) _ (Int.emod_nonneg _ (by omega)) (Int.emod_lt_of_pos _ h0) (Int.ediv_nonneg ha (by omega)) rfl fun i => ?_
    rw [AHp.get_set]
  · simp [x1, hp, b_nl]
    rw [b_cs]
    simp [x2, x3, o_mul (show small64 9161 = true ∨ _ from .inl rfl)]
    rw [o_pow (by decide) (by decide) (by omega)]
    simp [o_mod]
    rw [b_cs]
    generalize hz : _ % (2147483629 : Int) = z
    have z0 : 0 ≤ z := by rw [← hz]; exact Int.emod_nonneg _ (by decide)
    have z1 : z < 2147483629 := by rw [← hz]; exact Int.emod_lt_of_pos _ (by decide)
    simp [x2, o_mul (show _ ∨ small64 63029 = true from .inr rfl), o_mul (show small64 74017 = true ∨ _ from .inl rfl)]
    rw [o_pow (by decide) (by decide) (by omega)]
    simp [o_mod, h0]
    have ea : a = 0 := by omega
    refine q _ 0 h (Int.emod_nonneg _ (by omega)) (Int.emod_lt_of_pos _ h0) (by omega) rfl fun i => ?_
    split
    · next e => subst e; rw [j2, ea]
    · rfl
end
/-- the loop's way -/
theorem o_pop0 {y : AV} {r : List AV} {a : Nat} {h : AHp} {Q : QV} {X : QX} (g : h.get a = some (.lst (y :: r))) : okR (methA .popAt h (.ref a) [.int 0]) Q X = Q y (h.set a (.lst r)) := by
  have e : ixN (y :: r).length 0 = some 0 := by simp [ixN]
  have e2 : rngOk 0 = true := rfl
  unfold methA
  simp only [g, e, e2, if_true]
  rfl
theorem mOk_lst {m : Me} {a : Nat} {xs : List AV} {h : AHp} (g : h.get a = some (.lst xs)) (hm : m = .append ∨ m = .extend ∨ m = .pop ∨ m = .popAt ∨ m = .count) : mOk m h (.ref a) = true := by
  unfold mOk
  simp only [g]
  rcases hm with e | e | e | e | e <;> subst e <;> rfl
theorem s_whl' {C : Cf} {σ : Sl} {h : AHp} {cnd : E} {b : B} {X : QX} {N : Sl → AHp → Prop} {R : QV} : okS (evS C (.whl cnd b) σ h) N R X = okS (whlGo (fun σ1 h1 => truthR (evE C cnd σ1 h1)) (fun σ1 h1 => evB C b σ1 h1) C.F σ h) N R X := by simp only [evS]
def DrawI (h : AHp) (s c : Nat) (many b : Int) (m : Nat) (σ : Sl) (h' : AHp) : Prop := ∃ (cells : List Int) (a e : Int) (o : Option AV), σ = [some (.ref s), some (.int many), none, o, none] ∧ m = cells.length ∧ h'.get s = some (.lst [.ref c, .int a, .int (b + 1), .int e]) ∧ h'.get c = some (.lst (cells.map .int)) ∧ Keep (isStr s c) h h' ∧ cells.length ≤ 900 ∧ 0 ≤ a ∧ 0 ≤ e ∧ e < 2147483647
theorem draw_ok {P : Prog} {F d s c : Nat} {h : AHp} {B : Nat} {many : Int} {Q : QV} {X : QX} (hb : Has P 109 5 2 b109) (hF : 1000 ≤ F) (st : StrOk h s c B) (hB : B < 1099511627776) (h0 : 0 < many) (h1' : many < 1073741824)
    (q : ∀ v h', 0 ≤ v → v < many → StrOk h' s c (B + 1) → Keep (isStr s c) h h' → Q (.int v) h') : okR (run P F (d + 1) 109 [.ref s, .int many] h) Q X := by
  obtain ⟨cells, a, b, e, g1, g2, g3, g4, g5, g6, g7, g8, g9, g10, g11⟩ := st
  refine okR_run hb rfl ?_
  unfold b109
  rw [b_cs]
  have x2 : ∀ {Q : QV} {X}, okR (ixA h (.ref s) (.int 2)) Q X = Q (.int b) h := o_ixl g1 rfl
  simp [start, x2, o_setl g1 (show ixN 4 2 = some 2 from rfl)]
  rw [b_cs, s_whl']
  refine okS_whl (DrawI h s c many b) ?_ F cells.length _ _ (by omega) ⟨cells, a, e, none, rfl, rfl, ?_, ?_, .set (.inl rfl), g6, g7, g10, g11⟩
  · intro m σ h' ⟨cells, a, e, o, e1, e2, j1, j2, j3, j4, j5, j6, j7⟩
    subst e1
    subst e2
    have y0 : ∀ {Q : QV} {X}, okR (ixA h' (.ref s) (.int 0)) Q X = Q (.ref c) h' := o_ixl j1 rfl
    have y1 : ∀ {Q : QV} {X}, okR (ixA h' (.ref s) (.int 1)) Q X = Q (.int a) h' := o_ixl j1 rfl
    have y3 : ∀ {Q : QV} {X}, okR (ixA h' (.ref s) (.int 3)) Q X = Q (.int e) h' := o_ixl j1 rfl
    have tail : ∀ (h2 : AHp) (hk : Keep (isStr s c) h h2) (k1 : h2.get s = some (.lst [.ref c, .int a, .int (b + 1), .int e])) (k2 : h2.get c = some (.lst (cells.map .int))), okS (evB ⟨P, run P F d, F⟩ drawTail [some (.ref s), some (.int many), none, o, none] h2) (fun _ h => Q .non h) Q X := by
      intro h2 hk k1 k2
      refine draw_tail k1 h0 h1' j5 (by omega) (by omega) j6 j7 fun x a' h3 z0 z1 z2 z3 z4 => q x h3 z0 z1 ?_ ?_
      · refine ⟨cells, a', b + 1, e, by rw [z4, if_pos rfl], by rw [z4, if_neg g3]; exact k2, g3, ?_, ?_, j4, z2, by omega, by omega, j6, j7⟩
        · rw [z3]; exact Nat.lt_of_lt_of_le g4 hk.1
        · rw [z3]; exact Nat.lt_of_lt_of_le g5 hk.1
      · exact hk.trans ⟨by rw [z3]; exact Nat.le_refl _, fun i hi ni => by rw [z4, if_neg (fun z => ni (.inl z))]⟩
    unfold drawCond
    simp [y1]
    by_cases ha : a = 0
    · subst ha
      simp [y0, isz, cmpA]
      have k0 : h'.n ≠ c := by have := j3.1; omega
      have k0' : h'.n ≠ s := by have := j3.1; omega
      have f1 : (h'.add (.lst [])).get c = some (.lst (cells.map .int)) := by rw [AHp.get_add, if_neg (Ne.symm k0)]; exact j2
      have f2 : (h'.add (.lst [])).get h'.n = some (.lst (([] : List Int).map .int)) := by rw [AHp.get_add, if_pos rfl]; rfl
      have f3 : (h'.add (.lst [])).get s = some (.lst [.ref c, .int 0, .int (b + 1), .int e]) := by rw [AHp.get_add, if_neg (Ne.symm k0')]; exact j1
      rw [eqv_ints f1 f2, show eqdAll (cells.map PyData.int) (List.map PyData.int []) = cells.isEmpty from eqd_nil]
      simp [lift]
      cases cells with
      | nil => simp; exact tail _ (j3.trans .add) f3 f1
      | cons x r =>
        simp
        generalize hh : h'.add (.lst []) = h2 at f1 f3 ⊢
        have j3' : Keep (isStr s c) h h2 := by rw [← hh]; exact j3.trans .add
        have y0 : ∀ {Q : QV} {X}, okR (ixA h2 (.ref s) (.int 0)) Q X = Q (.ref c) h2 := o_ixl f3 rfl
        unfold drawBody
        rw [b_cs]
        simp only [List.map_cons] at f1
        simp [y0, mOk_lst f1, o_pop0 f1]
        rw [b_cs]
        generalize hh3 : h2.set c _ = h3
        have u1 : h3.get s = some (.lst [.ref c, .int 0, .int (b + 1), .int e]) := by rw [← hh3, AHp.get_set, if_neg (Ne.symm g3)]; exact f3
        have u2 : h3.get c = some (.lst (r.map .int)) := by rw [← hh3, AHp.get_set, if_pos rfl]
        have u3 : Keep (isStr s c) h h3 := by rw [← hh3]; exact j3'.trans (.set (.inr rfl))
        have y3 : ∀ {Q : QV} {X}, okR (ixA h3 (.ref s) (.int 3)) Q X = Q (.int e) h3 := o_ixl u1 rfl
        simp [y3, o_mul (show _ ∨ small64 72103 = true from .inr rfl), o_mod, o_setl u1 (show ixN 4 3 = some 3 from rfl)]
        generalize hz : _ % (2147483647 : Int) = z
        have z0 : 0 ≤ z := by rw [← hz]; exact Int.emod_nonneg _ (by decide)
        have z1 : z < 2147483647 := by rw [← hz]; exact Int.emod_lt_of_pos _ (by decide)
        rw [b_cs]
        generalize hh4 : h3.set s _ = h4
        have w1 : h4.get s = some (.lst [.ref c, .int 0, .int (b + 1), .int z]) := by rw [← hh4, AHp.get_set, if_pos rfl]
        have w2 : h4.get c = some (.lst (r.map .int)) := by rw [← hh4, AHp.get_set, if_neg g3]; exact u2
        have w3 : Keep (isStr s c) h h4 := by rw [← hh4]; exact u3.trans (.set (.inl rfl))
        simp [o_pow (show (0 : Int) ≤ 18 by decide) (show (18 : Int) ≤ 1000000 by decide) (show (10 : Int).natAbs < 18446744073709551616 by decide), o_setl w1 (show ixN 4 1 = some 1 from rfl), b_nl]
        have last : ∀ a' : Int, 0 ≤ a' → DrawI h s c many b r.length [some (AV.ref s), some (.int many), none, some (AV.int x), none] (h4.set s (.lst [.ref c, .int a', .int (b + 1), .int z])) := by
          intro a' ha'
          refine ⟨r, a', z, some (.int x), rfl, rfl, by rw [AHp.get_set, if_pos rfl], by rw [AHp.get_set, if_neg g3]; exact w2, w3.trans (.set (.inl rfl)), ?_, ha', z0, z1⟩
          simp at j4; omega
        split
        · exact last _ (by omega)
        · exact last _ (by omega)
    · have hb0 : (a == 0) = false := beq_eq_false_iff_ne.2 ha
      simp only [hb0, okR_ok, tr_bl]
      exact tail _ j3 j1 j2
  · rw [AHp.get_set, if_pos rfl]
  · rw [AHp.get_set, if_neg g3]; exact g2
end AH

set_option Elab.async false
set_option linter.all false
set_option maxRecDepth 100000
set_option maxHeartbeats 400000
/-! AHO: data with their places. -/
namespace AH
open PySem L2
inductive OT where
  | sc (v : AV) | lst (a : Nat) (xs : List OT) | tup (a : Nat) (xs : List OT) | edct (a : Nat)
def OT.v : OT → AV | .sc v => v | .lst a _ => .ref a | .tup a _ => .ref a | .edct a => .ref a
def OT.kids : OT → List OT | .sc _ => [] | .lst _ xs => xs | .tup _ xs => xs | .edct _ => []
def avOk : AV → Bool
  | .ref _ => false
  | .str x => x.cps.toList.all (fun c => Nat.blt c 1114112) && isz x.length
  | _ => true
def avD : AV → PyData | .non => .none | .bl b => .bool b | .int i => .int i | .str x => .str x | .ref _ => .none
mutual
def OT.Ok (h : AHp) (lo : Nat) : OT → Prop
  | .sc v => avOk v = true
  | .lst a xs => lo ≤ a ∧ a < h.n ∧ h.get a = some (.lst (xs.map OT.v)) ∧ xs.length < 16777216 ∧ OksL h lo xs
  | .tup a xs => lo ≤ a ∧ a < h.n ∧ h.get a = some (.tup (xs.map OT.v)) ∧ xs.length < 16777216 ∧ OksL h lo xs
  | .edct a => lo ≤ a ∧ a < h.n ∧ h.get a = some (.dct [])
def OksL (h : AHp) (lo : Nat) : List OT → Prop
  | [] => True
  | x :: r => x.Ok h lo ∧ OksL h lo r
end
mutual
/-- the data -/
def OT.d : OT → PyData
  | .sc v => avD v
  | .lst _ xs => .list (dsL xs)
  | .tup _ xs => .tuple (dsL xs)
  | .edct _ => .dict []
def dsL : List OT → List PyData
  | [] => []
  | x :: r => x.d :: dsL r
end
mutual
/-- how deep -/
def ddp : PyData → Nat
  | .list xs => ddpL xs + 1
  | .tuple xs => ddpL xs + 1
  | .dict _ => 2
  | _ => 0
def ddpL : List PyData → Nat
  | [] => 0
  | x :: r => max (ddp x) (ddpL r)
end
mutual
/-- how many nodes -/
def dsz : PyData → Nat
  | .list xs => dszL xs + 1
  | .tuple xs => dszL xs + 1
  | _ => 1
def dszL : List PyData → Nat
  | [] => 0
  | x :: r => dsz x + dszL r
end
abbrev OT.dp (t : OT) : Nat := ddp t.d
abbrev OT.sz (t : OT) : Nat := dsz t.d
mutual
/-- the lists' places -/
def OT.ls : OT → List Nat
  | .sc _ => []
  | .lst a xs => a :: lsL xs
  | .tup _ xs => lsL xs
  | .edct _ => []
def lsL : List OT → List Nat
  | [] => []
  | x :: r => x.ls ++ lsL r
end
mutual
/-- data with lists for tuples -/
def nrm : PyData → PyData
  | .list xs => .list (nrmL xs)
  | .tuple xs => .list (nrmL xs)
  | x => x
def nrmL : List PyData → List PyData
  | [] => []
  | x :: r => nrm x :: nrmL r
end
theorem dsL_map : ∀ xs, dsL xs = xs.map OT.d
  | [] => by simp [dsL]
  | x :: r => by simp [dsL, dsL_map r]
theorem nrmL_map : ∀ xs, nrmL xs = xs.map nrm
  | [] => by simp [nrmL]
  | x :: r => by simp [nrmL, nrmL_map r]
theorem OksL_iff {h : AHp} {lo : Nat} : ∀ {xs : List OT}, OksL h lo xs ↔ ∀ x ∈ xs, x.Ok h lo
  | [] => by simp [OksL]
  | x :: r => by simp [OksL, OksL_iff (xs := r)]
theorem ddpL_mem : ∀ {xs : List PyData} {x : PyData}, x ∈ xs → ddp x ≤ ddpL xs
  | y :: r, x, hx => by
    simp only [ddpL]
    rcases List.mem_cons.1 hx with e | e
    · subst e; exact Nat.le_max_left _ _
    · exact Nat.le_trans (ddpL_mem e) (Nat.le_max_right _ _)
theorem dszL_app : ∀ (xs ys : List PyData), dszL (xs ++ ys) = dszL xs + dszL ys
  | [], ys => by simp [dszL]
  | x :: r, ys => by simp [dszL, dszL_app r ys, Nat.add_assoc]
theorem dszL_mem : ∀ {xs : List PyData} {x : PyData}, x ∈ xs → dsz x ≤ dszL xs
  | y :: r, x, hx => by
    simp only [dszL]
    rcases List.mem_cons.1 hx with e | e
    · subst e; omega
    · have := dszL_mem e; omega
theorem dsz_pos : ∀ d : PyData, 0 < dsz d := by intro d; cases d <;> simp [dsz]
theorem dszL_len : ∀ xs : List PyData, xs.length ≤ dszL xs
  | [] => by simp
  | x :: r => by have := dszL_len r; have := dsz_pos x; simp [dszL]; omega
theorem dszL_take (i : Nat) (xs : List PyData) : dszL (xs.take i) ≤ dszL xs := by
  have := dszL_app (xs.take i) (xs.drop i)
  rw [List.take_append_drop] at this
  omega
theorem lsL_app : ∀ (xs ys : List OT), lsL (xs ++ ys) = lsL xs ++ lsL ys
  | [], ys => by simp [lsL]
  | x :: r, ys => by simp [lsL, lsL_app r ys, List.append_assoc]
theorem lsL_mem {a : Nat} : ∀ {xs : List OT}, a ∈ lsL xs ↔ ∃ x ∈ xs, a ∈ x.ls
  | [] => by simp [lsL]
  | x :: r => by simp [lsL, lsL_mem (xs := r)]
mutual
theorem OT.Ok.keep {A : Nat → Prop} {h h' : AHp} {lo : Nat} (k : Keep A h h') (hA : ∀ a, A a → a < lo) : ∀ {t : OT}, t.Ok h lo → t.Ok h' lo
  | .sc v, q => by simpa [OT.Ok] using q
  | .lst a xs, q => by
    simp only [OT.Ok] at q ⊢
    exact ⟨q.1, Nat.lt_of_lt_of_le q.2.1 k.1, by rw [k.2 a q.2.1 (fun z => by have := hA a z; omega)]; exact q.2.2.1, q.2.2.2.1, OksL.keep k hA q.2.2.2.2⟩
  | .tup a xs, q => by
    simp only [OT.Ok] at q ⊢
    exact ⟨q.1, Nat.lt_of_lt_of_le q.2.1 k.1, by rw [k.2 a q.2.1 (fun z => by have := hA a z; omega)]; exact q.2.2.1, q.2.2.2.1, OksL.keep k hA q.2.2.2.2⟩
  | .edct a, q => by
    simp only [OT.Ok] at q ⊢
    exact ⟨q.1, Nat.lt_of_lt_of_le q.2.1 k.1, by rw [k.2 a q.2.1 (fun z => by have := hA a z; omega)]; exact q.2.2⟩
theorem OksL.keep {A : Nat → Prop} {h h' : AHp} {lo : Nat} (k : Keep A h h') (hA : ∀ a, A a → a < lo) : ∀ {ts : List OT}, OksL h lo ts → OksL h' lo ts
  | [], q => by simp [OksL]
  | t :: r, q => by
    simp only [OksL] at q ⊢
    exact ⟨OT.Ok.keep k hA q.1, OksL.keep k hA q.2⟩
end
mutual
theorem OT.Ok.mono {h : AHp} {lo lo' : Nat} (k : lo' ≤ lo) : ∀ {t : OT}, t.Ok h lo → t.Ok h lo'
  | .sc v, q => by simpa [OT.Ok] using q
  | .lst a xs, q => by
    simp only [OT.Ok] at q ⊢
    exact ⟨Nat.le_trans k q.1, q.2.1, q.2.2.1, q.2.2.2.1, OksL.mono k q.2.2.2.2⟩
  | .tup a xs, q => by
    simp only [OT.Ok] at q ⊢
    exact ⟨Nat.le_trans k q.1, q.2.1, q.2.2.1, q.2.2.2.1, OksL.mono k q.2.2.2.2⟩
  | .edct a, q => by
    simp only [OT.Ok] at q ⊢
    exact ⟨Nat.le_trans k q.1, q.2.1, q.2.2⟩
theorem OksL.mono {h : AHp} {lo lo' : Nat} (k : lo' ≤ lo) : ∀ {ts : List OT}, OksL h lo ts → OksL h lo' ts
  | [], q => by simp [OksL]
  | t :: r, q => by
    simp only [OksL] at q ⊢
    exact ⟨OT.Ok.mono k q.1, OksL.mono k q.2⟩
end
mutual
theorem OT.Ok.ls_ge {h : AHp} {lo : Nat} : ∀ {t : OT}, t.Ok h lo → ∀ a ∈ t.ls, lo ≤ a ∧ a < h.n
  | .sc v, q => by simp [OT.ls]
  | .lst a xs, q => by
    simp only [OT.Ok] at q
    intro b hb
    simp only [OT.ls, List.mem_cons] at hb
    rcases hb with e | e
    · subst e; exact ⟨q.1, q.2.1⟩
    · exact OksL.ls_ge q.2.2.2.2 b e
  | .tup a xs, q => by
    simp only [OT.Ok] at q
    intro b hb
    simp only [OT.ls] at hb
    exact OksL.ls_ge q.2.2.2.2 b hb
  | .edct a, q => by simp [OT.ls]
theorem OksL.ls_ge {h : AHp} {lo : Nat} : ∀ {ts : List OT}, OksL h lo ts → ∀ a ∈ lsL ts, lo ≤ a ∧ a < h.n
  | [], q => by simp [lsL]
  | t :: r, q => by
    simp only [OksL] at q
    intro b hb
    simp only [lsL, List.mem_append] at hb
    rcases hb with e | e
    · exact OT.Ok.ls_ge q.1 b e
    · exact OksL.ls_ge q.2 b e
end
/-- nothing old is changed -/
def noA : Nat → Prop := fun _ => False
theorem noA_lt {lo : Nat} : ∀ a, noA a → a < lo := fun _ h => h.elim
theorem Keep.noA {A : Nat → Prop} {h h' : AHp} (k : Keep AH.noA h h') : Keep A h h' := k.mono fun _ z => z.elim
/-- changes behind -/
theorem Keep.later {A B : Nat → Prop} {h h1 h2 : AHp} (a : Keep A h h1) (b : Keep B h1 h2) (f : ∀ i, B i → A i ∨ h.n ≤ i) : Keep A h h2 :=
  ⟨Nat.le_trans a.1 b.1, fun i hi n => (b.2 i (Nat.lt_of_lt_of_le hi a.1) fun z => (f i z).elim n fun z => by omega).trans (a.2 i hi n)⟩
theorem StrOk.keep {h h' : AHp} {s c B : Nat} {A : Nat → Prop} (k : Keep A h h') (hs : ¬ A s) (hc : ¬ A c) (q : StrOk h s c B) : StrOk h' s c B := by
  obtain ⟨cells, a, b, e, g1, g2, g3, g4, g5, g6⟩ := q
  exact ⟨cells, a, b, e, (k.2 s g4 hs).trans g1, (k.2 c g5 hc).trans g2, g3, Nat.lt_of_lt_of_le g4 k.1, Nat.lt_of_lt_of_le g5 k.1, g6⟩
theorem StrOk.mono {h : AHp} {s c B B' : Nat} (e : B ≤ B') (q : StrOk h s c B) : StrOk h s c B' := by
  obtain ⟨cells, a, b, e, g1, g2, g3, g4, g5, g6, g7, g8, g9, g10⟩ := q
  exact ⟨cells, a, b, e, g1, g2, g3, g4, g5, g6, g7, g8, by omega, g10⟩
theorem okR_to {α : Type} {r : Rs α} {Q Q' : α → AHp → Prop} {X : QX} (h : okR r Q noX) (f : ∀ v h, Q v h → Q' v h) : okR r Q' X := okR_noX (okR_mono h f)
/-! ### kinds -/
def OT.kd : OT → Kd
  | .sc .non => .non | .sc (.bl _) => .bl | .sc (.int _) => .int | .sc (.str _) => .str | .sc (.ref _) => .non
  | .lst _ _ => .lst | .tup _ _ => .tup | .edct _ => .dct
theorem kdA_ot {h : AHp} {lo : Nat} : ∀ {t : OT}, t.Ok h lo → kdA h t.v = some t.kd
  | .sc v, q => by
    cases v <;> first | rfl | (simp [OT.Ok, avOk] at q)
  | .lst a xs, q => by
    simp only [OT.Ok] at q
    simp only [OT.v, kdA, q.2.2.1]; rfl
  | .tup a xs, q => by
    simp only [OT.Ok] at q
    simp only [OT.v, kdA, q.2.2.1]; rfl
  | .edct a, q => by
    simp only [OT.Ok] at q
    simp only [OT.v, kdA, q.2.2]; rfl
/-- of one of these types -/
def OT.ty (t : OT) (ts : List Ty) : Bool := ts.any (kTab t.kd)
theorem tyAny_ot {h : AHp} {lo : Nat} {t : OT} (q : t.Ok h lo) {ts : List Ty} : tyAny h t.v ts = some (t.ty ts) := by
  unfold tyAny
  rw [kdA_ot q]; rfl
section
variable {C : Cf} {σ : Sl} {h : AHp} {Q : QV} {X : QX} {N : Sl → AHp → Prop} {R : QV}
@[simp] theorem e_isa {e : E} {one : Bool} {ts : List Ty} : okR (evE C (.isa e one ts) σ h) Q X = okR (evE C e σ h) (fun v h1 => okR (lift h1 (tyAny h1 v ts)) Q X) X := by simp only [evE, okR_bind]
@[simp] theorem lift_some {b : Bool} : okR (lift h (some b)) Q X = Q (.bl b) h := rfl
@[simp] theorem e_tupE {e : E} : okR (evE C (.tupE e) σ h) Q X = okR (evE C e σ h) (fun v h1 => okR (tupA h1 v) Q X) X := by simp only [evE, okR_bind]
@[simp] theorem e_lstE {e : E} : okR (evE C (.lstE e) σ h) Q X = okR (evE C e σ h) (fun v h1 => okR (lstA h1 v) Q X) X := by simp only [evE, okR_bind]
theorem e_lc {e : E} {g : G} {it : I} {own : List Nat} : okR (evE C (.lc e g it own) σ h) Q X = okR (evI C it σ h) (fun t h1 => okR (compGo t (fun vs h2 => match bindIt h2 g vs (wipeA σ own) with
        | some σ1 => (evE C e σ1 h2).bind fun v h3 => .ok (some v) h3
        | none => .no) t.len 0 [] h1) (fun xs h4 => Q (.ref h4.n) (h4.add (.lst xs))) X) X := by simp only [evE, okR_bind, okR_ok] <;> rfl
@[simp] theorem i_seq' {e : E} {Q : It → AHp → Prop} : okR (evI C (.seq e) σ h) Q X = okR (evE C e σ h) (fun v h1 => match seqIt h1 v with | some t => Q t h1 | none => False) X := by
  simp only [evI, okR_bind]
  congr 1; funext v h1; cases seqIt h1 v <;> rfl
theorem s_for' {g : G} {it : I} {b : B} : okS (evS C (.forS g it b) σ h) N R X = okR (evI C it σ h) (fun t h1 => okS (forGo t (fun vs σ1 h2 => match bindIt h2 g vs σ1 with
    | some σ2 => evB C b σ2 h2
    | none => .no) t.len 0 σ h1) N R X) X := by simp only [evS, okS_sbind] <;> rfl
end
/-- what walks a node's parts -/
def OT.it : OT → It
  | .sc _ => .vs []
  | .lst a xs => .lv a xs.length
  | .tup _ xs => .vs (xs.map OT.v)
  | .edct _ => .vs []
def OT.isN : OT → Bool | .lst _ _ => true | .tup _ _ => true | _ => false
theorem OT.it_len {t : OT} : t.it.len = t.kids.length := by cases t <;> simp [OT.it, It.len, OT.kids]
theorem seqIt_ot {h : AHp} {lo : Nat} : ∀ {t : OT}, t.Ok h lo → t.isN = true → seqIt h t.v = some t.it
  | .lst a xs, q, _ => by
    simp only [OT.Ok] at q
    simp [OT.v, seqIt, q.2.2.1, OT.it]
  | .tup a xs, q, _ => by
    simp only [OT.Ok] at q
    simp [OT.v, seqIt, q.2.2.1, OT.it]
theorem sqIt_ot {h : AHp} {lo : Nat} : ∀ {t : OT}, t.Ok h lo → t.isN = true → sqIt h t.v = some t.it
  | .lst a xs, q, _ => by
    simp only [OT.Ok] at q
    simp [OT.v, sqIt, q.2.2.1, OT.it]
  | .tup a xs, q, _ => by
    simp only [OT.Ok] at q
    simp [OT.v, sqIt, q.2.2.1, OT.it]
theorem one_ot {h : AHp} {lo i : Nat} : ∀ {t : OT}, t.Ok h lo → t.isN = true → ∀ hi : i < t.kids.length, t.it.one i h = some (t.kids[i]).v
  | .lst a xs, q, _, hi => by
    simp only [OT.Ok] at q
    simp only [OT.kids] at hi
    simp [OT.it, It.one, q.2.2.1, OT.kids, hi]
  | .tup a xs, q, _, hi => by
    simp only [OT.kids] at hi
    simp [OT.it, It.one, OT.kids, hi]
theorem item_ot {h : AHp} {lo i : Nat} {t : OT} (q : t.Ok h lo) (n : t.isN = true) (hi : i < t.kids.length) : t.it.item i h = some [(t.kids[i]).v] := by
  have := one_ot q n hi
  cases t with
  | sc v => simp [OT.isN] at n
  | edct a => simp [OT.isN] at n
  | lst a xs => simp [OT.it, It.item] at this ⊢; exact this
  | tup a xs => simp [OT.it, It.item] at this ⊢; exact this
theorem fin_ot {h : AHp} {lo : Nat} {t : OT} (q : t.Ok h lo) (n : t.isN = true) : t.it.fin h = true := by
  cases t with
  | sc v => simp [OT.isN] at n
  | edct a => simp [OT.isN] at n
  | lst a xs =>
    simp only [OT.Ok] at q
    simp [OT.it, It.fin, q.2.2.1]
  | tup a xs => rfl
theorem OT.Ok.kid {h : AHp} {lo : Nat} {t x : OT} (q : t.Ok h lo) (hx : x ∈ t.kids) : x.Ok h lo := by
  cases t with
  | sc v => simp [OT.kids] at hx
  | edct a => simp [OT.kids] at hx
  | lst a xs =>
    simp only [OT.Ok] at q
    exact OksL_iff.1 q.2.2.2.2 x hx
  | tup a xs =>
    simp only [OT.Ok] at q
    exact OksL_iff.1 q.2.2.2.2 x hx
theorem OT.Ok.klen {h : AHp} {lo : Nat} {t : OT} (q : t.Ok h lo) : t.kids.length < 16777216 := by
  cases t with
  | sc v => simp [OT.kids]
  | edct a => simp [OT.kids]
  | lst a xs =>
    simp only [OT.Ok] at q
    exact q.2.2.2.1
  | tup a xs =>
    simp only [OT.Ok] at q
    exact q.2.2.2.1
theorem OT.dp_kid {t x : OT} (hx : x ∈ t.kids) : x.dp < t.dp := by
  cases t with
  | sc v => simp [OT.kids] at hx
  | edct a => simp [OT.kids] at hx
  | lst a xs => simp only [OT.dp, OT.d, ddp, dsL_map]; exact Nat.lt_succ_of_le (ddpL_mem (List.mem_map_of_mem hx))
  | tup a xs => simp only [OT.dp, OT.d, ddp, dsL_map]; exact Nat.lt_succ_of_le (ddpL_mem (List.mem_map_of_mem hx))
/-- a comprehension over a node's parts -/
theorem lc_kids {C : Cf} {σ : Sl} {h : AHp} {Q : QV} {X : QX} {e : E} {g x : Nat} {own : List Nat} {t : OT} {lo : Nat} {A : Nat → Prop} (I : Nat → List AV → AHp → Prop) (ht : t.Ok h lo) (hn : t.isN = true) (hA : ∀ a, A a → a < lo) (hx : σ[x]? = some (some t.v)) (h0 : I 0 [] h)
    (hs : ∀ i acc h' (hi : i < t.kids.length), Keep A h h' → acc.length = i → I i acc h' → okR (evE C e ((wipeA σ own).set g (some (t.kids[i]).v)) h') (fun y h'' => Keep A h' h'' ∧ I (i + 1) (acc ++ [y]) h'') noX)
    (he : ∀ acc h', Keep A h h' → acc.length = t.kids.length → I t.kids.length acc h' → Q (.ref h'.n) (h'.add (.lst acc))) : okR (evE C (.lc e (.nm g) (.seq (.var x)) own) σ h) Q X := by
  rw [e_lc]
  simp only [i_seq', e_var, hx, okR_ok, seqIt_ot ht hn]
  refine okR_comp (fun i acc h' => Keep A h h' ∧ acc.length = i ∧ I i acc h') ?_ ?_ _ _ _ _ (by simp) ⟨.refl, rfl, h0⟩
  · intro i acc h' hi ⟨k, l, q⟩
    rw [OT.it_len] at hi
    refine ⟨_, item_ot (ht.keep k hA) hn hi, ?_⟩
    show okR ((evE C e ((wipeA σ own).set g (some (t.kids[i]).v)) h').bind fun v h3 => .ok (some v) h3) _ noX
    rw [okR_bind]
    refine okR_mono (hs i acc h' hi k l q) fun y h'' q' => ?_
    have := ht.klen
    exact ⟨by omega, k.trans q'.1, by simp [l], q'.2⟩
  · intro acc h' ⟨k, l, q⟩
    rw [OT.it_len] at l q
    exact ⟨fin_ot (ht.keep k hA) hn, he acc h' k l q⟩
/-- a for over a node's parts -/
theorem for_kids {C : Cf} {σ : Sl} {h : AHp} {N : Sl → AHp → Prop} {R : QV} {X : QX} {e : E} {b : B} {g : Nat} {t : OT} {lo : Nat} {A : Nat → Prop} (I : Nat → Sl → AHp → Prop) (ht : t.Ok h lo) (hn : t.isN = true) (hA : ∀ a, A a → a < lo)
    (h0 : I 0 σ h)
    (hs : ∀ i σ' h' (hi : i < t.kids.length), Keep A h h' → I i σ' h' → okS (evB C b (σ'.set g (some (t.kids[i]).v)) h') (fun σ'' h'' => Keep A h' h'' ∧ I (i + 1) σ'' h'') R X)
    (he : ∀ σ' h', Keep A h h' → I t.kids.length σ' h' → N σ' h') (hx : ∀ {Q : QV}, okR (evE C e σ h) Q X = Q t.v h) : okS (evS C (.forS (.nm g) (.seq e) b) σ h) N R X := by
  rw [s_for']
  simp only [i_seq', hx, seqIt_ot ht hn]
  refine okS_for (fun i σ' h' => Keep A h h' ∧ I i σ' h') ?_ ?_ _ _ _ _ (by simp) ⟨.refl, h0⟩
  · intro i σ' h' hi ⟨k, q⟩
    rw [OT.it_len] at hi
    refine ⟨_, item_ot (ht.keep k hA) hn hi, ?_⟩
    show okS (evB C b (σ'.set g (some (t.kids[i]).v)) h') _ R X
    exact okS_mono (hs i σ' h' hi k q) (fun σ'' h'' q' => ⟨k.trans q'.1, q'.2⟩) fun _ _ q => q
  · intro σ' h' ⟨k, q⟩
    rw [OT.it_len] at q
    exact ⟨fin_ot (ht.keep k hA) hn, he σ' h' k q⟩
end AH

set_option Elab.async false
set_option linter.all false
set_option maxRecDepth 100000
set_option maxHeartbeats 400000
/-! AHP: what the shared helpers do. -/
namespace AH
open PySem L2
/-- _law_start -/
def b529 : B := (.cons (.ret (.lst (.cons (.lstE (.var 0)) (.cons (.int 0) (.cons (.int 0) (.cons (.int 89) .nil))))))
  .nil)
/-- _law_pick -/
def b431 : B := (.cons (.ret (.sub (.var 1) (.call 109 (.cons (.var 0) (.cons (.blt .len (.cons (.var 1) .nil)) .nil)))))
  .nil)
/-- _law_mixed -/
def b344 : B := (.cons (.asg 2 (.lstE (.var 1)))
  (.cons (.ret (.lc (.meth .popAt (.var 2) (.cons (.call 109 (.cons (.var 0) (.cons (.blt .len (.cons (.var 2) .nil)) .nil))) .nil)) (.nm 3) (.rng1 (.blt .len (.cons (.var 2) .nil))) [3]))
  .nil))
/-- _law_copied -/
def b101 : B := (.cons (.ite (.isa (.var 0) true [.dict]) (.cons (.ret (.dctE (.lock 0 (.lc (.tup (.cons (.var 3) (.cons (.call 101 (.cons (.sub (.var 0) (.var 3)) .nil)) .nil))) (.nm 3) (.keys (.var 0)) [3]))))
  .nil) .nil)
  (.cons (.ite (.not (.isa (.var 0) false [.list, .tuple])) (.cons (.ret (.var 0))
  .nil) .nil)
  (.cons (.asg 1 (.lc (.call 101 (.cons (.var 2) .nil)) (.nm 2) (.seq (.var 0)) [2]))
  (.cons (.ret (.ite (.isa (.var 0) true [.list]) (.var 1) (.tupE (.var 1))))
  .nil))))
def OT.isL : OT → Bool | .lst _ _ => true | _ => false
def OT.isD : OT → Bool | .edct _ => true | _ => false
@[simp] theorem kd_dict {t : OT} : t.ty [Ty.dict] = t.isD := by
  cases t with
  | sc v => cases v <;> rfl
  | lst => rfl
  | tup => rfl
  | edct => rfl
section
variable {C : Cf} {σ : Sl} {h : AHp} {Q : QV} {X : QX}
theorem e_dctE {e : E} : okR (evE C (.dctE e) σ h) Q X = okR (evE C e σ h) (fun v h1 => okR (dctA h1 v) Q X) X := by simp only [evE, okR_bind]
theorem o_dctE0 {a : Nat} (g : h.get a = some (.lst [])) : okR (dctA h (.ref a)) Q X = Q (.ref h.n) (h.add (.dct [])) := by
  unfold dctA
  simp only [g]; rfl
/-- a walk over an empty dict's keys -/
theorem e_lockE {a i : Nat} {e : E} {g : Nat} {own : List Nat} (hi : σ[i]? = some (some (.ref a))) (hg : h.get a = some (.dct [])) (ha : a < h.n)
    (k : ∀ h', h'.get h.n = some (.lst []) → h.n < h'.n → Keep (fun _ => False) h h' → Q (.ref h.n) h') : okR (evE C (.lock i (.lc e (.nm g) (.keys (.var i)) own)) σ h) Q X := by
  have e1 : lockA σ i h = some (a, h.set a (.dctL [])) := by simp [lockA, hi, hg]
  have g1 : (h.set a (.dctL [])).get a = some (.dctL []) := by rw [AHp.get_set, if_pos rfl]
  have e2 : evE C (.lc e (.nm g) (.keys (.var i)) own) σ (h.set a (.dctL [])) = .ok (.ref h.n) ((h.set a (.dctL [])).add (.lst [])) := by
    simp only [evE, evI, hi, Rs.bind, lockedA, g1]
    rfl
  have e3 : unlock a ((h.set a (.dctL [])).add (.lst [])) = some (((h.set a (.dctL [])).add (.lst [])).set a (.dct [])) := by
    have : ((h.set a (.dctL [])).add (.lst [])).get a = some (.dctL []) := by rw [AHp.get_add, if_neg (by simp; omega)]; exact g1
    simp [unlock, this]
  have : evE C (.lock i (.lc e (.nm g) (.keys (.var i)) own)) σ h = .ok (.ref h.n) (((h.set a (.dctL [])).add (.lst [])).set a (.dct [])) := by
    rw [evE, e1]
    simp only [e2, Rs.noex, Rs.bind, e3]
  rw [this, okR_ok]
  refine k _ ?_ (by simp) ⟨by simp, fun j hj _ => ?_⟩
  · rw [AHp.get_set, if_neg (by omega), AHp.get_add, if_pos (by simp)]
  · rw [AHp.get_set]
    split
    · next z => subst z; exact hg.symm
    · next z => rw [AHp.get_add, if_neg (by simp; omega), AHp.get_set, if_neg z]
end
theorem mk_edct {h : AHp} {lo : Nat} (hl : lo ≤ h.n) : (OT.edct h.n).Ok (h.add (.dct [])) lo := by
  simp only [OT.Ok]
  exact ⟨hl, by simp, by rw [AHp.get_add, if_pos rfl]⟩
@[simp] theorem kd_lt {t : OT} : t.ty [Ty.list, Ty.tuple] = t.isN := by
  cases t with
  | sc v => cases v <;> rfl
  | lst => rfl
  | tup => rfl
  | edct => rfl
@[simp] theorem kd_l {t : OT} : t.ty [Ty.list] = t.isL := by
  cases t with
  | sc v => cases v <;> rfl
  | lst => rfl
  | tup => rfl
  | edct => rfl
theorem mk_lst {h : AHp} {lo : Nat} {ts : List OT} (q : OksL h lo ts) (hl : lo ≤ h.n) (hs : ts.length < 16777216) : (OT.lst h.n ts).Ok (h.add (.lst (ts.map OT.v))) lo := by
  simp only [OT.Ok]
  exact ⟨hl, by simp, by rw [AHp.get_add, if_pos rfl], hs, OksL.keep (A := noA) .add noA_lt q⟩
theorem mk_tup {h : AHp} {lo : Nat} {ts : List OT} (q : OksL h lo ts) (hl : lo ≤ h.n) (hs : ts.length < 16777216) : (OT.tup h.n ts).Ok (h.add (.tup (ts.map OT.v))) lo := by
  simp only [OT.Ok]
  exact ⟨hl, by simp, by rw [AHp.get_add, if_pos rfl], hs, OksL.keep (A := noA) .add noA_lt q⟩
theorem OksL.app {h : AHp} {lo : Nat} {ts us : List OT} (q : OksL h lo ts) (q' : OksL h lo us) : OksL h lo (ts ++ us) := by
  rw [OksL_iff] at *
  intro x hx
  rcases List.mem_append.1 hx with e | e
  · exact q x e
  · exact q' x e
theorem OksL.one {h : AHp} {lo : Nat} {t : OT} (q : t.Ok h lo) : OksL h lo [t] := by simp [OksL, q]
theorem take_step {α : Type} {l : List α} {i : Nat} (hi : i < l.length) : l.take (i + 1) = l.take i ++ [l[i]] := by
  rw [List.take_succ, List.getElem?_eq_getElem hi]; rfl
theorem OT.d_kids {t : OT} (n : t.isN = true) : t.d = if t.isL then .list (t.kids.map OT.d) else .tuple (t.kids.map OT.d) := by
  cases t with
  | sc v => simp [OT.isN] at n
  | edct a => simp [OT.isN] at n
  | lst a xs => simp [OT.d, dsL_map, OT.isL, OT.kids]
  | tup a xs => simp [OT.d, dsL_map, OT.isL, OT.kids]
/-- what a walk over trees has gathered -/
def Acc (f : PyData → PyData) (h0 h' : AHp) (ds : List PyData) (acc : List AV) : Prop := ∃ ts : List OT, acc = ts.map OT.v ∧ OksL h' h0.n ts ∧ (ts.map OT.d).map f = ds.map f ∧ (lsL ts).Nodup
theorem Acc.nil {f : PyData → PyData} {h0 h' : AHp} : Acc f h0 h' [] [] := ⟨[], rfl, by simp [OksL], rfl, by simp [lsL]⟩
theorem Acc.step {f : PyData → PyData} {A : Nat → Prop} {h0 h' h'' : AHp} {ds : List PyData} {acc : List AV} {t : OT} {x : PyData} (q : Acc f h0 h' ds acc) (h0n : h0.n ≤ h'.n) (k : Keep A h' h'') (hA : ∀ a, A a → a < h0.n) (ht : t.Ok h'' h'.n) (hd : f t.d = f x) (hn : t.ls.Nodup) : Acc f h0 h'' (ds ++ [x]) (acc ++ [t.v]) := by
  obtain ⟨ts, e1, e2, e3, e4⟩ := q
  refine ⟨ts ++ [t], by simp [e1], .app (e2.keep k hA) (.one (ht.mono h0n)), by simp only [List.map_append, e3, List.map_cons, List.map_nil, hd], ?_⟩
  rw [lsL_app, List.nodup_append]
  refine ⟨e4, by simpa [lsL] using hn, fun a ha b hb => ?_⟩
  have h1 := (e2.ls_ge a ha).2
  have h2 := (ht.ls_ge b (by simpa [lsL] using hb)).1
  omega
theorem map_take {α β : Type} {f : α → β} {l : List α} {i : Nat} : (l.map f).take i = (l.take i).map f := by rw [List.map_take]
/-- what is handed back of a walk: a list or a tuple of what was gathered -/
def Made (f : PyData → PyData) (A : Nat → Prop) (h : AHp) (d : PyData) (v : AV) (h' : AHp) : Prop := ∃ t : OT, v = t.v ∧ t.Ok h' h.n ∧ f t.d = f d ∧ Keep A h h' ∧ t.ls.Nodup
theorem Made.lst {f : PyData → PyData} {A : Nat → Prop} {h h' : AHp} {ds : List PyData} {acc : List AV} {d : PyData} (q : Acc f h h' ds acc) (k : Keep A h h') (hs : acc.length < 16777216) (hf : ∀ es : List PyData, es.map f = ds.map f → f (.list es) = f d) : Made f A h d (.ref h'.n) (h'.add (.lst acc)) := by
  obtain ⟨ts, e1, e2, e3, e4⟩ := q
  refine ⟨.lst h'.n ts, rfl, ?_, ?_, k.trans .add, ?_⟩
  · rw [e1]; exact mk_lst e2 k.1 (by simpa [e1] using hs)
  · simp only [OT.d, dsL_map]; exact hf _ e3
  · simp only [OT.ls, List.nodup_cons]
    exact ⟨fun z => by have := (e2.ls_ge _ z).2; omega, e4⟩
theorem Made.tup {f : PyData → PyData} {A : Nat → Prop} {h h' h'' : AHp} {ds : List PyData} {acc : List AV} {d : PyData} (q : Acc f h h' ds acc) (k : Keep A h h') (k' : Keep A h' h'') (hA : ∀ a, A a → a < h.n) (hs : acc.length < 16777216) (hf : ∀ es : List PyData, es.map f = ds.map f → f (.tuple es) = f d) : Made f A h d (.ref h''.n) (h''.add (.tup acc)) := by
  obtain ⟨ts, e1, e2, e3, e4⟩ := q
  refine ⟨.tup h''.n ts, rfl, ?_, ?_, (k.trans k').trans .add, ?_⟩
  · rw [e1]; exact mk_tup (e2.keep k' hA) (k.trans k').1 (by simpa [e1] using hs)
  · simp only [OT.d, dsL_map]; exact hf _ e3
  · simp only [OT.ls]; exact e4
theorem tupA_lst {h : AHp} {a : Nat} {xs : List AV} {Q : QV} {X : QX} (g : h.get a = some (.lst xs)) : okR (tupA h (.ref a)) Q X = Q (.ref h.n) (h.add (.tup xs)) := by
  unfold tupA
  simp only [g]; rfl
theorem copied_ok {P : Prog} {F : Nat} (hb : Has P 101 4 1 b101) : ∀ (d : Nat) (t : OT) (h : AHp) (lo : Nat), t.Ok h lo → t.dp < d → okR (run P F d 101 [t.v] h) (Made id noA h t.d) noX
  | 0, t, h, lo, ht, hd => by omega
  | d + 1, t, h, lo, ht, hd => by
    refine okR_run hb rfl ?_
    unfold b101
    rw [b_cs]
    simp [start, tyAny_ot ht]
    by_cases hD : t.isD = true
    · cases t with
      | edct a =>
        have ht' := ht
        simp only [OT.Ok] at ht'
        simp only [OT.isD, if_true]
        rw [b_cs]
        simp only [s_ret', e_dctE]
        refine e_lockE rfl ht'.2.2 ht'.2.1 fun h1 g1 n1 k1 => ?_
        rw [o_dctE0 g1]
        refine ⟨.edct h1.n, rfl, mk_edct (by omega), rfl, (k1.mono fun _ z => z).trans .add, by simp [OT.ls]⟩
      | _ => simp [OT.isD] at hD
    rw [if_neg hD]
    rw [b_nl, b_cs]
    simp [tyAny_ot ht]
    by_cases hn : t.isN = true
    · simp only [hn, if_true]
      rw [b_nl, b_cs]
      simp only [s_asg']
      refine lc_kids (t := t) (lo := lo) (A := noA) (fun i acc h' => Acc id h h' ((t.kids.map OT.d).take i) acc) ht hn noA_lt rfl .nil ?_ ?_
      · intro i acc h' hi k l q
        simp [wipeA]
        refine okR_mono (copied_ok hb d (t.kids[i]) h' lo ((ht.keep k noA_lt).kid (List.getElem_mem hi)) (by have := OT.dp_kid (List.getElem_mem hi); omega)) fun v h'' ⟨t', m1, m2, m3, m4, m5⟩ => ⟨m4, ?_⟩
        rw [m1, take_step (by simpa using hi)]
        exact q.step k.1 m4 (fun _ z => z.elim) m2 (by simpa using m3) m5
      · intro acc h' k l q
        rw [List.take_of_length_le (by simp)] at q
        have hl : acc.length < 16777216 := by have := ht.klen; omega
        rw [b_cs]
        simp [tyAny_ot ((ht.keep k noA_lt).keep (.add (o := .lst acc)) noA_lt)]
        split
        · next e =>
          refine Made.lst q k hl fun es he => ?_
          rw [OT.d_kids hn, e]; simpa using he
        · next e =>
          rw [tupA_lst (by rw [AHp.get_add, if_pos rfl])]
          refine Made.tup q k .add (fun _ z => z.elim) hl fun es he => ?_
          rw [OT.d_kids hn, if_neg (by simpa using e)]; simpa using he
    · simp [hn]
      rw [b_cs]
      simp
      refine ⟨t, rfl, ?_, rfl, .refl, ?_⟩
      · cases t with
        | sc v => simpa [OT.Ok] using ht
        | lst => simp [OT.isN] at hn
        | tup => simp [OT.isN] at hn
        | edct => simp [OT.isD] at hD
      · cases t with
        | sc v => simp [OT.ls]
        | lst => simp [OT.isN] at hn
        | tup => simp [OT.isN] at hn
        | edct => simp [OT.isD] at hD
end AH

set_option Elab.async false
set_option linter.all false
set_option maxRecDepth 100000
set_option maxHeartbeats 400000
/-! AHL: drawing helpers. -/
namespace AH
open PySem L2
/-- behind drawing so often at most -/
def Dr (s c B : Nat) (h h' : AHp) : Prop := StrOk h' s c B ∧ Keep (isStr s c) h h'
theorem isStr_lt {s c lo : Nat} (hs : s < lo) (hc : c < lo) : ∀ a, isStr s c a → a < lo := fun a h => by
  rcases h with e | e <;> omega
theorem Dr.trans {s c B B' : Nat} {h h1 h2 : AHp} (a : Dr s c B h h1) (b : Dr s c B' h1 h2) : Dr s c B' h h2 := ⟨b.1, a.2.trans b.2⟩
theorem nrm_list {es ds : List PyData} (h : es.map nrm = ds.map nrm) : nrm (.list es) = .list (ds.map nrm) := by simp [nrm, nrmL_map, h]
theorem nrm_tuple {es ds : List PyData} (h : es.map nrm = ds.map nrm) : nrm (.tuple es) = .list (ds.map nrm) := by simp [nrm, nrmL_map, h]
theorem OT.nrm_d {t : OT} (n : t.isN = true) : nrm t.d = .list ((t.kids.map OT.d).map nrm) := by
  rw [OT.d_kids n]
  split <;> simp only [nrm, nrmL_map]
theorem OT.dsz_d {t : OT} (n : t.isN = true) : dsz t.d = dszL (t.kids.map OT.d) + 1 := by
  rw [OT.d_kids n]
  split <;> simp only [dsz]
/-- the values of a list or a tuple -/
def Vals (h : AHp) (v : AV) (xs : List AV) : Prop := ∃ a, v = .ref a ∧ (h.get a = some (.lst xs) ∨ h.get a = some (.tup xs))
theorem o_len {h : AHp} {v : AV} {xs : List AV} {Q : QV} {X : QX} (q : Vals h v xs) : okR (bltA .len h [v]) Q X = Q (.int xs.length) h := by
  obtain ⟨a, rfl, g | g⟩ := q <;> (unfold bltA; simp only [g]; rfl)
theorem o_ixv {h : AHp} {v y : AV} {i : Int} {xs : List AV} {Q : QV} {X : QX} (q : Vals h v xs) (e : L2.atI xs i = some y) : okR (ixA h v (.int i)) Q X = Q y h := by
  obtain ⟨a, rfl, g | g⟩ := q <;> (unfold ixA; simp only [g, e]; rfl)
theorem o_lstE {h : AHp} {v : AV} {xs : List AV} {Q : QV} {X : QX} (q : Vals h v xs) : okR (lstA h v) Q X = Q (.ref h.n) (h.add (.lst xs)) := by
  obtain ⟨a, rfl, g | g⟩ := q <;> (unfold lstA; simp only [g]; rfl)
theorem Vals.keep {A : Nat → Prop} {h h' : AHp} {a : Nat} {xs : List AV} (k : Keep A h h') (ha : a < h.n) (hA : ¬ A a) (q : Vals h (.ref a) xs) : Vals h' (.ref a) xs := by
  obtain ⟨b, e, g⟩ := q
  cases e
  exact ⟨a, rfl, by rw [k.2 a ha hA]; exact g⟩
theorem OT.Ok.vals {h : AHp} {lo : Nat} {t : OT} (q : t.Ok h lo) (n : t.isN = true) : Vals h t.v (t.kids.map OT.v) := by
  cases t with
  | sc v => simp [OT.isN] at n
  | edct a => simp [OT.isN] at n
  | lst a xs => simp only [OT.Ok] at q; exact ⟨a, rfl, .inl q.2.2.1⟩
  | tup a xs => simp only [OT.Ok] at q; exact ⟨a, rfl, .inr q.2.2.1⟩
theorem atI_nat {α : Type} {xs : List α} {i : Int} (h0 : 0 ≤ i) (h1 : i < xs.length) : atI xs i = some (xs[i.toNat]'(by omega)) := by
  unfold atI ixN
  rw [if_pos h0, if_pos h1]
  simp
theorem pick_ok {P : Prog} {F s c d B a : Nat} {h : AHp} {xs : List AV} {Q : QV} {X : QX} (hb : Has P 431 2 2 b431) (hb1 : Has P 109 5 2 b109) (hF : 1000 ≤ F) (st : StrOk h s c B) (hB : B < 1099511627776) (q : Vals h (.ref a) xs) (ha : a < h.n) (hA : ¬ isStr s c a) (h0 : xs ≠ []) (hl : xs.length < 1073741824)
    (k : ∀ v h', v ∈ xs → Dr s c (B + 1) h h' → Q v h') : okR (run P F (d + 2) 431 [.ref s, .ref a] h) Q X := by
  refine okR_run hb rfl ?_
  unfold b431
  rw [b_cs]
  simp [start, o_len q]
  have : 0 < xs.length := List.length_pos_iff.2 h0
  refine draw_ok hb1 hF st hB (by omega) (by omega) fun v h' v0 v1 st' k' => ?_
  rw [o_ixv (q.keep k' ha hA) (atI_nat v0 v1)]
  exact k _ _ (List.getElem_mem _) ⟨st', k'⟩
end AH

set_option Elab.async false
set_option linter.all false
set_option maxRecDepth 100000
set_option maxHeartbeats 400000
/-! AHX: _law_mixed, _law_start. -/
namespace AH
open PySem L2
section
variable {C : Cf} {σ : Sl} {h : AHp} {X : QX}
@[simp] theorem i_rng1' {a : E} {Q : It → AHp → Prop} : okR (evI C (.rng1 a) σ h) Q X = okR (evE C a σ h) (fun v h1 => match v with | .int j => if rngOk j then Q (.vs (rngL 0 j.toNat)) h1 else False | _ => False) X := by
  simp only [evI, okR_bind]
  congr 1; funext v h1; cases v <;> try rfl
  simp only; split <;> rfl
@[simp] theorem i_rng2' {a b : E} {Q : It → AHp → Prop} : okR (evI C (.rng2 a b) σ h) Q X = okR (evE C a σ h) (fun v h1 => okR (evE C b σ h1) (fun w h2 => match v, w with | .int i, .int j => if rngOk i && rngOk j then Q (.vs (rngL i (j - i).toNat)) h2 else False | _, _ => False) X) X := by
  simp only [evI, okR_bind]
  congr 1; funext v h1; congr 1; funext w h2
  cases v <;> cases w <;> try rfl
  simp only; split <;> rfl
@[simp] theorem i_zip' {a b : E} {Q : It → AHp → Prop} : okR (evI C (.zip a b) σ h) Q X = okR (evE C a σ h) (fun v h1 => okR (evE C b σ h1) (fun w h2 => match zpIt h2 v w with | some t => Q t h2 | none => False) X) X := by
  simp only [evI, okR_bind]
  congr 1; funext v h1; congr 1; funext w h2; cases zpIt h2 v w <;> rfl
@[simp] theorem i_enum' {e : E} {Q : It → AHp → Prop} : okR (evI C (.enum e) σ h) Q X = okR (evE C e σ h) (fun v h1 => match sqIt h1 v with | some t => Q (.en 0 t) h1 | none => False) X := by
  simp only [evI, okR_bind]
  congr 1; funext v h1; cases sqIt h1 v <;> rfl
end
theorem rngL_l' : ∀ (n : Nat) (lo : Int), (rngL lo n).length = n
  | 0, _ => rfl
  | n + 1, lo => by simp [rngL, rngL_l' n]
theorem rngL_g' : ∀ (n : Nat) (lo : Int) (i : Nat), i < n → (rngL lo n)[i]? = some (.int (lo + i))
  | n + 1, lo, 0, _ => by simp [rngL]
  | n + 1, lo, i + 1, hi => by
    simp only [rngL, List.getElem?_cons_succ]
    rw [rngL_g' n (lo + 1) i (by omega)]
    congr 2; omega
theorem rng_item {n i : Nat} {lo : Int} {h : AHp} (hi : i < n) : (It.vs (rngL lo n)).item i h = some [.int (lo + i)] := by
  simp [It.item, It.one, rngL_g' n lo i hi]
theorem rng_len {n : Nat} {lo : Int} : (It.vs (rngL lo n)).len = n := by simp [It.len, rngL_l']
theorem rngOk_nat {n : Nat} (h : n < 1073741824) : rngOk (n : Int) = true := by
  unfold rngOk
  rw [decide_eq_true (show -1073741824 < (n : Int) by omega), decide_eq_true (show (n : Int) < 1073741824 by omega)]; rfl
theorem o_popv {h : AHp} {a : Nat} {i : Int} {xs : List AV} {Q : QV} {X : QX} (g : h.get a = some (.lst xs)) (h0 : 0 ≤ i) (h1 : i < xs.length) (h2 : i < 1073741824) : okR (methA .popAt h (.ref a) [.int i]) Q X = Q (xs[i.toNat]'(by omega)) (h.set a (.lst (xs.eraseIdx i.toNat))) := by
  have e2 : rngOk i = true := by
    unfold rngOk
    rw [decide_eq_true (show -1073741824 < i by omega), decide_eq_true h2]; rfl
  have e : ixN xs.length i = some i.toNat := by unfold ixN; rw [if_pos h0, if_pos h1]
  have e3 : xs[i.toNat]? = some (xs[i.toNat]'(by omega)) := List.getElem?_eq_getElem _
  unfold methA
  simp only [g, e, e2, e3, if_true]
  rfl
theorem era_perm {α : Type} : ∀ (l : List α) (k : Nat) (h : k < l.length), (l[k] :: l.eraseIdx k).Perm l
  | x :: r, 0, h => .refl _
  | x :: r, k + 1, h => by
    simp only [List.getElem_cons_succ, List.eraseIdx_cons_succ]
    exact (List.Perm.swap x _ _).trans (.cons x (era_perm r k (by simpa using h)))
theorem mixed_ok {P : Prog} {F s c d B a : Nat} {h : AHp} {xs : List AV} {Q : QV} {X : QX} (hb : Has P 344 4 2 b344) (hb1 : Has P 109 5 2 b109) (hF : 1000 ≤ F) (st : StrOk h s c B) (hB : B + xs.length < 1099511627776) (q : Vals h (.ref a) xs) (hl : xs.length < 16777216)
    (k : ∀ ys h' r, ys.Perm xs → h.n ≤ r → r < h'.n → h'.get r = some (.lst ys) → Dr s c (B + xs.length) h h' → Q (.ref r) h') : okR (run P F (d + 2) 344 [.ref s, .ref a] h) Q X := by
  refine okR_run hb rfl ?_
  unfold b344
  rw [b_cs]
  simp [start, o_lstE q]
  rw [b_cs]
  simp [e_lc]
  generalize hh : h.add (.lst xs) = h1
  have g1 : h1.get h.n = some (.lst xs) := by rw [← hh, AHp.get_add, if_pos rfl]
  have k1 : Keep (isStr s c) h h1 := by rw [← hh]; exact .add
  have n1 : h1.n = h.n + 1 := by rw [← hh]; rfl
  have st1 : StrOk h1 s c B := by rw [← hh]; exact st.keep (Keep.add (A := noA)) id id
  have v1 : Vals h1 (.ref h.n) xs := ⟨_, rfl, .inl g1⟩
  have hsn : s < h.n ∧ c < h.n := by
    obtain ⟨_, _, _, _, _, _, _, g4, g5, _⟩ := st
    exact ⟨g4, g5⟩
  have hA' := isStr_lt hsn.1 hsn.2
  simp [o_len v1, rngOk_nat (show xs.length < 1073741824 by omega)]
  rw [rng_len]
  refine okR_comp (fun i acc h' => StrOk h' s c (B + i) ∧ Keep (fun a => isStr s c a ∨ a = h.n) h1 h' ∧ acc.length = i ∧ ∃ left, h'.get h.n = some (.lst left) ∧ (acc ++ left).Perm xs ∧ left.length + i = xs.length) ?_ ?_ _ _ _ _ (by rw [rng_len]; simp) ⟨st1, .refl, rfl, xs, g1, by simp, by simp⟩
  · intro i acc h' hi ⟨q1, q2, q3, left, q4, q5, q6⟩
    rw [rng_len] at hi
    refine ⟨_, rng_item hi, ?_⟩
    have v2 : Vals h' (.ref h.n) left := ⟨_, rfl, .inl q4⟩
    simp [bindIt, bindG, wipeA, mOk_lst q4, o_len v2]
    refine draw_ok hb1 hF q1 (by omega) (by omega) (by omega) fun v h2 w0 w1 st2 k2 => ?_
    have q4' : h2.get h.n = some (.lst left) := by
      rw [k2.2 h.n (by have := q2.1; omega) (fun z => by have := hA' _ z; omega)]; exact q4
    rw [o_popv q4' w0 w1 (by omega)]
    refine ⟨by omega, ?_, ?_, by simp [q3], left.eraseIdx v.toNat, by rw [AHp.get_set, if_pos rfl], ?_, ?_⟩
    · exact StrOk.keep (A := fun a => a = h.n) (Keep.set rfl) (fun z => by omega) (fun z => by omega) st2
    · exact (q2.trans (k2.mono fun _ z => .inl z)).trans (.set (.inr rfl))
    · refine List.Perm.trans (List.Perm.append_left acc ?_) q5
      exact era_perm _ _ _
    · rw [List.length_eraseIdx, if_pos (by omega)]; omega
  · intro acc h' ⟨q1, q2, q3, left, q4, q5, q6⟩
    rw [rng_len] at *
    refine ⟨rfl, ?_⟩
    have : left = [] := List.length_eq_zero_iff.1 (by omega)
    subst this
    rw [List.append_nil] at q5
    have k3 : Keep (isStr s c) h h' := k1.later q2 fun i z => by
      rcases z with e | e
      · exact .inl e
      · exact .inr (by omega)
    exact k acc _ h'.n q5 k3.1 (by simp) (by rw [AHp.get_add, if_pos rfl]) ⟨q1.keep (Keep.add (A := noA)) id id, k3.trans .add⟩
end AH

set_option Elab.async false
set_option linter.all false
set_option maxRecDepth 100000
set_option maxHeartbeats 400000
/-! AHLL: _law_loose. -/
namespace AH
open PySem L2
/-- _law_loose -/
def b296 : B := (.cons (.ite (.isa (.var 1) true [.dict]) (.cons (.ret (.dctE (.lc (.tup (.cons (.var 4) (.cons (.call 296 (.cons (.var 0) (.cons (.sub (.var 1) (.var 4)) .nil))) .nil))) (.nm 4) (.seq (.call 344 (.cons (.var 0) (.cons (.lstE (.var 1)) .nil)))) [4])))
  .nil) .nil)
  (.cons (.ite (.not (.isa (.var 1) false [.list, .tuple])) (.cons (.ret (.var 1))
  .nil) .nil)
  (.cons (.asg 2 (.lc (.call 296 (.cons (.var 0) (.cons (.var 3) .nil))) (.nm 3) (.seq (.var 1)) [3]))
  (.cons (.ret (.ite (.cmp .eq (.call 109 (.cons (.var 0) (.cons (.int 3) .nil))) (.int 0)) (.var 2) (.tupE (.var 2))))
  .nil))))
theorem StrOk.add {h : AHp} {s c B : Nat} {o : AO} (q : StrOk h s c B) : StrOk (h.add o) s c B := q.keep (Keep.add (A := noA)) id id
theorem loose_ok {P : Prog} {F s c : Nat} (hb : Has P 296 5 2 b296) (hbm : Has P 344 4 2 b344) (hb1 : Has P 109 5 2 b109) (hF : 1000 ≤ F) : ∀ (d : Nat) (t : OT) (h : AHp) (lo B : Nat), t.Ok h lo → s < lo → c < lo → StrOk h s c B → B + dsz t.d < 1099511627776 → t.dp + 1 < d → okR (run P F d 296 [.ref s, t.v] h) (fun v h' => Made nrm (isStr s c) h t.d v h' ∧ StrOk h' s c (B + dsz t.d)) noX
  | 0, t, h, lo, B, ht, hs, hc, st, hB, hd => by omega
  | d + 1, t, h, lo, B, ht, hs, hc, st, hB, hd => by
    have hA := isStr_lt hs hc
    refine okR_run hb rfl ?_
    unfold b296
    rw [b_cs]
    simp [start, tyAny_ot ht]
    have hsn : s < h.n ∧ c < h.n := by
      obtain ⟨_, _, _, _, _, _, _, g4, g5, _⟩ := st
      exact ⟨g4, g5⟩
    have hA' := isStr_lt hsn.1 hsn.2
    by_cases hD : t.isD = true
    · cases t with
      | edct a =>
        have ht' := ht
        simp only [OT.Ok] at ht'
        simp only [OT.isD, if_true]
        rw [b_cs]
        simp only [s_ret', e_dctE, e_lc, i_seq', e_call, l_cs, l_nl, e_lstE, e_var]
        have e1 : ∀ {Q : QV} {X}, okR (lstA h (OT.edct a).v) Q X = Q (.ref h.n) (h.add (.lst [])) := by
          intro Q X
          simp only [OT.v]
          unfold lstA
          simp only [ht'.2.2]; rfl
        simp [e1]
        obtain ⟨d', rfl⟩ : ∃ d', d = d' + 2 := ⟨d - 2, by simp only [OT.dp, OT.d, ddp] at hd; omega⟩
        refine mixed_ok (xs := []) hbm hb1 hF st.add (by simp only [OT.d, dsz] at hB; simp; omega) ⟨h.n, rfl, .inl (by rw [AHp.get_add, if_pos rfl])⟩ (by simp) fun ys h1 r hp r1 r2 g1 ⟨st1, k1⟩ => ?_
        have ey : ys = [] := by simpa using hp.length_eq
        subst ey
        have e2 : seqIt h1 (.ref r) = some (.lv r 0) := by simp [seqIt, g1]
        rw [e2]
        have e3 : (It.lv r 0).fin h1 = true := by simp [It.fin, g1]
        simp only [It.len]
        unfold compGo
        rw [if_pos e3]
        simp only [okR_ok]
        rw [o_dctE0 (by rw [AHp.get_add, if_pos rfl])]
        have k2 : Keep (isStr s c) h h1 := Keep.add.trans k1
        exact ⟨⟨.edct _, rfl, mk_edct (by have := k2.1; simp; omega), rfl, (k2.trans .add).trans .add, by simp [OT.ls]⟩, (st1.add.add).mono (by simp)⟩
      | _ => simp [OT.isD] at hD
    rw [if_neg hD]
    rw [b_nl, b_cs]
    simp [tyAny_ot ht]
    by_cases hn : t.isN = true
    · simp only [hn, if_true]
      rw [b_nl, b_cs]
      simp only [s_asg']
      have hsz := OT.dsz_d hn
      refine lc_kids (t := t) (lo := lo) (A := isStr s c) (fun i acc h' => Acc nrm h h' ((t.kids.map OT.d).take i) acc ∧ StrOk h' s c (B + dszL ((t.kids.map OT.d).take i))) ht hn hA rfl ⟨.nil, by simpa [dszL] using st⟩ ?_ ?_
      · intro i acc h' hi k l ⟨q, q'⟩
        simp [wipeA]
        have hi' : i < (t.kids.map OT.d).length := by simpa using hi
        have hst := take_step hi'
        have hz : dszL ((t.kids.map OT.d).take (i + 1)) = dszL ((t.kids.map OT.d).take i) + dsz (t.kids[i]).d := by rw [hst, dszL_app]; simp [dszL]
        have hz2 := dszL_take (i + 1) (t.kids.map OT.d)
        have hkid := (ht.keep k hA).kid (List.getElem_mem hi)
        refine okR_mono (loose_ok hb hbm hb1 hF d (t.kids[i]) h' lo (B + dszL ((t.kids.map OT.d).take i)) hkid hs hc q' (by omega) (by have := OT.dp_kid (List.getElem_mem hi); omega)) fun v h'' ⟨⟨t', m1, m2, m3, m4, m5⟩, q2⟩ => ⟨m4, ?_, ?_⟩
        · rw [m1, hst]
          exact q.step k.1 m4 hA' m2 (by simpa using m3) m5
        · rw [hz, ← Nat.add_assoc]; exact q2
      · intro acc h' k l ⟨q, q'⟩
        rw [List.take_of_length_le (by simp)] at q q'
        have hl : acc.length < 16777216 := by have := ht.klen; omega
        have k1 : Keep (isStr s c) h' (h'.add (.lst acc)) := .add
        rw [b_cs]
        simp
        have hdd : ∃ d', d = d' + 1 := ⟨d - 1, by omega⟩
        obtain ⟨d', rfl⟩ := hdd
        refine draw_ok hb1 hF ((q'.keep (Keep.add (A := noA)) id id)) (by omega) (by decide) (by decide) fun v h2 v0 v1 st2 k2 => ?_
        simp
        have hg : h2.get h'.n = some (.lst acc) := by
          rw [k2.2 h'.n (by simp) (fun z => by have := hA' _ z; have := k.1; omega), AHp.get_add, if_pos rfl]
        have st3 : StrOk h2 s c (B + dsz t.d) := st2.mono (by omega)
        split
        · next e =>
          have := Made.lst (f := nrm) (d := t.d) q k hl (fun es he => by rw [OT.nrm_d hn]; exact nrm_list he)
          obtain ⟨t', m1, m2, m3, m4, m5⟩ := this
          exact ⟨⟨t', m1, m2.keep k2 hA', m3, m4.trans k2, m5⟩, st3⟩
        · next e =>
          rw [tupA_lst hg]
          refine ⟨Made.tup q k (k1.trans k2) hA' hl fun es he => ?_, st3.keep (Keep.add (A := noA)) id id⟩
          rw [OT.nrm_d hn]; exact nrm_tuple he
    · simp [hn]
      rw [b_cs]
      simp
      refine ⟨⟨t, rfl, ?_, rfl, .refl, ?_⟩, st.mono (by omega)⟩
      · cases t with
        | sc v => simpa [OT.Ok] using ht
        | lst => simp [OT.isN] at hn
        | tup => simp [OT.isN] at hn
        | edct => simp [OT.isD] at hD
      · cases t with
        | sc v => simp [OT.ls]
        | lst => simp [OT.isN] at hn
        | tup => simp [OT.isN] at hn
        | edct => simp [OT.isD] at hD
end AH

set_option Elab.async false
set_option linter.all false
set_option maxRecDepth 100000
set_option maxHeartbeats 400000
/-! AHM: _law_start, _law_same. -/
namespace AH
open PySem L2
theorem start_ok {P : Prog} {F d : Nat} {ns : List Int} {Q : QV} {X : QX} (hb : Has P 529 1 1 b529) (hl : ns.length ≤ 900)
    (k : ∀ h', h'.n = 3 → StrOk h' 2 1 0 → Q (.ref 2) h') : okR (run P F (d + 1) 529 [.ref 0] (scrH ns)) Q X := by
  refine okR_run hb rfl ?_
  unfold b529
  rw [b_cs]
  have g : (scrH ns).get 0 = some (.scr ns) := by unfold scrH; rw [AHp.get_add, if_pos (by rfl)]
  have e : ∀ {Q : QV} {X}, okR (lstA (scrH ns) (.ref 0)) Q X = Q (.ref 1) ((scrH ns).add (.lst (ns.map .int))) := by
    intro Q X
    unfold lstA
    simp only [g]; rfl
  simp [start, e, isz]
  have n1 : (scrH ns).n = 1 := rfl
  rw [n1]
  refine k _ (by simp [n1]) ⟨ns, 0, 0, 89, ?_, ?_, by decide, by simp [n1], by simp [n1], hl, by decide, by decide, by decide, by decide, by decide⟩
  · rw [AHp.get_add, if_pos (by simp [n1])]
  · rw [AHp.get_add, if_neg (by simp [n1]), AHp.get_add, if_pos (by simp [n1])]
/-- _law_same -/
def b491 : B := (.cons (.ite (.isa (.var 1) false [.list, .tuple]) (.cons (.ite (.or (.cmp .ne (.isa (.var 0) true [.list]) (.isa (.var 1) true [.list])) (.cmp .ne (.isa (.var 0) true [.tuple]) (.isa (.var 1) true [.tuple]))) (.cons (.ret (.bl false))
  .nil) .nil)
  (.cons (.ret (.and (.cmp .eq (.blt .len (.cons (.var 0) .nil)) (.blt .len (.cons (.var 1) .nil))) (.blt .all (.cons (.lc (.call 491 (.cons (.var 2) (.cons (.var 3) .nil))) (.tp (.cons (.nm 2) (.cons (.nm 3) .nil))) (.zip (.var 0) (.var 1)) [2, 3]) .nil))))
  .nil)) .nil)
  (.cons (.ite (.isa (.var 1) true [.dict]) (.cons (.ret (.and (.isa (.var 0) true [.dict]) (.call 491 (.cons (.lstIt (.var 0)) (.cons (.lstIt (.var 1)) .nil)))))
  .nil) .nil)
  (.cons (.ite (.isa (.var 1) true [.int]) (.cons (.ret (.and (.isa (.var 0) true [.int]) (.and (.cmp .eq (.isa (.var 0) true [.bool]) (.isa (.var 1) true [.bool])) (.cmp .eq (.var 0) (.var 1)))))
  .nil) .nil)
  (.cons (.ite (.cmp .is (.var 1) .non) (.cons (.ret (.cmp .is (.var 0) .non))
  .nil) .nil)
  (.cons (.ite (.isa (.var 1) true [.str]) (.cons (.ret (.and (.isa (.var 0) true [.str]) (.cmp .eq (.var 0) (.var 1))))
  .nil) .nil)
  (.cons (.ret (.and (.not (.isa (.var 0) false [.int, .str, .list, .tuple, .dict])) (.cmp .eq (.var 0) (.var 1))))
  .nil))))))
section
variable {h : AHp} {Q : QV} {X : QX}
@[simp] theorem o_neb {a b : Bool} : okR (cmpA .ne h (.bl a) (.bl b)) Q X = Q (.bl (!(a == b))) h := rfl
@[simp] theorem o_eqb {a b : Bool} : okR (cmpA .eq h (.bl a) (.bl b)) Q X = Q (.bl (a == b)) h := rfl
@[simp] theorem o_isn {v : AV} : okR (cmpA .is h v .non) Q X = Q (.bl (match v with | .non => true | _ => false)) h := rfl
@[simp] theorem o_isnotn {v : AV} : okR (cmpA .isnot h v .non) Q X = Q (.bl (match v with | .non => false | _ => true)) h := rfl
theorem o_eqs {x y : Str} (hx : avOk (.str x) = true) (hy : avOk (.str y) = true) : okR (cmpA .eq h (.str x) (.str y)) Q X = Q (.bl (strEq x y)) h := by
  simp only [avOk, Bool.and_eq_true] at hx hy
  simp only [cmpA, eqv, rd, hx.1, hy.1, if_true, eqd, lift_some]
theorem o_nes {x y : Str} (hx : avOk (.str x) = true) (hy : avOk (.str y) = true) : okR (cmpA .ne h (.str x) (.str y)) Q X = Q (.bl (!strEq x y)) h := by
  simp only [avOk, Bool.and_eq_true] at hx hy
  simp only [cmpA, eqv, rd, hx.1, hy.1, if_true, eqd, Option.map_some, lift_some]
theorem strEq_refl (x : Str) : strEq x x = true := by unfold strEq; simp
theorem blsOf_true : ∀ n : Nat, blsOf (List.replicate n (.bl true)) = some (List.replicate n true)
  | 0 => rfl
  | n + 1 => by simp [List.replicate_succ, blsOf, blsOf_true n]
theorem o_allT {a n : Nat} (g : h.get a = some (.lst (List.replicate n (.bl true)))) : okR (bltA .all h [.ref a]) Q X = Q (.bl true) h := by
  unfold bltA
  simp only [g, blsOf_true]
  simp
end
theorem zpIt_ot {h : AHp} {lo lo' : Nat} {t u : OT} (ht : t.Ok h lo) (hu : u.Ok h lo') (n : t.isN = true) (n' : u.isN = true) (e : t.isL = u.isL) : zpIt h t.v u.v = some (.zp t.it u.it) := by
  unfold zpIt
  rw [sqIt_ot ht n, sqIt_ot hu n']
  cases t <;> cases u <;> simp [OT.isN, OT.isL, OT.it] at *
/-- a comprehension over two nodes' parts -/
theorem lc_zip {C : Cf} {σ : Sl} {h : AHp} {Q : QV} {X : QX} {e : E} {g g' x y : Nat} {own : List Nat} {t u : OT} {lo lo' : Nat} {A : Nat → Prop} (I : Nat → List AV → AHp → Prop) (ht : t.Ok h lo) (hu : u.Ok h lo') (hn : t.isN = true) (hn' : u.isN = true) (hl : t.isL = u.isL) (hk : t.kids.length = u.kids.length) (hA : ∀ a, A a → a < lo) (hA' : ∀ a, A a → a < lo') (hx : σ[x]? = some (some t.v)) (hy : σ[y]? = some (some u.v)) (h0 : I 0 [] h)
    (hs : ∀ i acc h' (hi : i < t.kids.length), Keep A h h' → acc.length = i → I i acc h' → okR (evE C e (((wipeA σ own).set g (some (t.kids[i]).v)).set g' (some (u.kids[i]'(by omega)).v)) h') (fun y h'' => Keep A h' h'' ∧ I (i + 1) (acc ++ [y]) h'') noX)
    (he : ∀ acc h', Keep A h h' → acc.length = t.kids.length → I t.kids.length acc h' → Q (.ref h'.n) (h'.add (.lst acc))) : okR (evE C (.lc e (.tp (.cons (.nm g) (.cons (.nm g') .nil))) (.zip (.var x) (.var y)) own) σ h) Q X := by
  rw [e_lc]
  simp only [i_zip', e_var, hx, hy, okR_ok, zpIt_ot ht hu hn hn' hl]
  have hlen : (It.zp t.it u.it).len = t.kids.length := by simp only [It.len, OT.it_len, ← hk, Nat.min_self]
  refine okR_comp (fun i acc h' => Keep A h h' ∧ acc.length = i ∧ I i acc h') ?_ ?_ _ _ _ _ (by simp) ⟨.refl, rfl, h0⟩
  · intro i acc h' hi ⟨k, l, q⟩
    rw [hlen] at hi
    refine ⟨[(t.kids[i]).v, (u.kids[i]'(by omega)).v], ?_, ?_⟩
    · simp only [It.item, one_ot (ht.keep k hA) hn hi, one_ot (hu.keep k hA') hn' (show i < u.kids.length by omega)]
    show okR ((evE C e (((wipeA σ own).set g (some (t.kids[i]).v)).set g' (some (u.kids[i]'(by omega)).v)) h').bind fun v h3 => .ok (some v) h3) _ noX
    rw [okR_bind]
    refine okR_mono (hs i acc h' hi k l q) fun y h'' q' => ?_
    have := ht.klen
    exact ⟨by omega, k.trans q'.1, by simp [l], q'.2⟩
  · intro acc h' ⟨k, l, q⟩
    rw [hlen] at l q
    refine ⟨?_, he acc h' k l q⟩
    simp only [It.fin, fin_ot (ht.keep k hA) hn, fin_ot (hu.keep k hA') hn']; rfl
@[simp] theorem ty_t {t : OT} : t.ty [Ty.tuple] = (t.isN && !t.isL) := by
  cases t with
  | sc v => cases v <;> rfl
  | lst => rfl
  | tup => rfl
  | edct => rfl
theorem e_lstIt {C : Cf} {σ : Sl} {h : AHp} {Q : QV} {X : QX} {e : E} : okR (evE C (.lstIt e) σ h) Q X = okR (evE C e σ h) (fun v h1 => okR (itemsA h1 v) Q X) X := by simp only [evE, okR_bind]
theorem o_items0 {h : AHp} {a : Nat} {Q : QV} {X : QX} (g : h.get a = some (.dct [])) : okR (itemsA h (.ref a)) Q X = Q (.ref h.n) (h.add (.lst [])) := by
  unfold itemsA
  simp only [g]; rfl
theorem same_ok {P : Prog} {F : Nat} (hb : Has P 491 4 2 b491) : ∀ (d : Nat) (t u : OT) (h : AHp) (lo lo' : Nat), t.Ok h lo → u.Ok h lo' → t.d = u.d → t.dp < d → okR (run P F d 491 [t.v, u.v] h) (fun v h' => v = .bl true ∧ Keep noA h h') noX
  | 0, t, u, h, lo, lo', ht, hu, he, hd => by omega
  | d + 1, t, u, h, lo, lo', ht, hu, he, hd => by
    refine okR_run hb rfl ?_
    unfold b491
    by_cases hn : u.isN = true
    · have hn' : t.isN = true := by
        cases t with
        | sc v =>
          cases u with
          | sc w => exact hn
          | lst a xs => cases v <;> simp [OT.d, avD] at he
          | tup a xs => cases v <;> simp [OT.d, avD] at he
          | edct a => exact hn
        | lst a xs => rfl
        | tup a xs => rfl
        | edct a => cases u <;> simp [OT.d, OT.isN] at he hn
      have hl : t.isL = u.isL := by
        rw [OT.d_kids hn, OT.d_kids hn'] at he
        cases h1 : t.isL <;> cases h2 : u.isL <;> simp [h1, h2] at he <;> rfl
      have hk : t.kids.map OT.d = u.kids.map OT.d := by
        rw [OT.d_kids hn, OT.d_kids hn', hl] at he
        cases h2 : u.isL <;> simp [h2] at he <;> exact he
      have hk2 : t.kids.length = u.kids.length := by simpa using congrArg List.length hk
      rw [b_cs]
      simp [start, tyAny_ot ht, tyAny_ot hu, hn]
      rw [b_cs]
      simp [tyAny_ot ht, tyAny_ot hu, hn, hn', hl]
      rw [b_nl, b_cs]
      simp [o_len (ht.vals hn'), o_len (hu.vals hn), hk2]
      refine lc_zip (A := noA) (fun i acc h' => acc = List.replicate i (.bl true)) ht hu hn' hn hl hk2 noA_lt noA_lt rfl rfl rfl ?_ ?_
      · intro i acc h' hi k l q
        simp [wipeA]
        refine okR_mono (same_ok hb d (t.kids[i]) (u.kids[i]'(by omega)) h' lo lo' ((ht.keep k noA_lt).kid (List.getElem_mem hi)) ((hu.keep k noA_lt).kid (List.getElem_mem _)) ?_ (by have := OT.dp_kid (List.getElem_mem hi); omega)) fun v h'' ⟨m1, m2⟩ => ⟨m2, ?_⟩
        · have := congrArg (fun l => l[i]?) hk
          simp only [List.getElem?_map] at this
          rw [List.getElem?_eq_getElem hi, List.getElem?_eq_getElem (by omega)] at this
          simpa using this
        · rw [q, m1, ← List.replicate_succ']
      · intro acc h' k l q
        rw [o_allT (n := t.kids.length) (by rw [AHp.get_add, if_pos rfl, q])]
        exact ⟨rfl, k.trans .add⟩
    · by_cases hD : u.isD = true
      · have ht0 : ∃ b, t = .edct b := by
          cases u with
          | edct a =>
            cases t with
            | sc v => cases v <;> simp [OT.d, avD] at he
            | lst => simp [OT.d] at he
            | tup => simp [OT.d] at he
            | edct b => exact ⟨b, rfl⟩
          | _ => simp [OT.isD] at hD
        obtain ⟨b, rfl⟩ := ht0
        cases u with
        | edct a =>
          rw [b_cs]
          simp [start, tyAny_ot ht, tyAny_ot hu, OT.isN, b_nl]
          rw [b_cs]
          simp [tyAny_ot ht, tyAny_ot hu, OT.isD]
          rw [b_cs]
          simp [tyAny_ot ht, tyAny_ot hu, OT.isD, e_lstIt]
          have ht' := ht
          have hu' := hu
          simp only [OT.Ok] at ht' hu'
          simp only [OT.v]
          rw [o_items0 ht'.2.2]
          have k1 : Keep noA h (h.add (.lst [])) := .add
          have hu1 := hu.keep k1 noA_lt
          simp only [OT.Ok] at hu1
          rw [o_items0 hu1.2.2]
          have T : (OT.lst h.n []).Ok (h.add (.lst [])) 0 := mk_lst (ts := []) (by simp [OksL]) (by omega) (by simp)
          have U : (OT.lst (h.add (.lst [])).n []).Ok ((h.add (.lst [])).add (.lst [])) 0 := mk_lst (ts := []) (by simp [OksL]) (by omega) (by simp)
          refine okR_mono (same_ok hb d (.lst h.n []) (.lst (h.add (.lst [])).n []) _ 0 0 (T.keep (Keep.add (A := noA)) noA_lt) U rfl ?_) fun v h2 ⟨m1, m2⟩ => ⟨m1, (k1.trans .add).trans m2⟩
          simp only [OT.dp, OT.d, ddp, dsL, ddpL] at hd ⊢; omega
        | _ => simp [OT.isD] at hD
      have hz : ∃ v, t = .sc v ∧ u = .sc v ∧ avOk v = true := by
        cases u with
        | sc v =>
          cases t with
          | sc w =>
            simp only [OT.Ok] at ht hu
            cases v <;> cases w <;> simp [OT.d, avD, avOk] at he ht hu <;> first | exact ⟨_, rfl, rfl, rfl⟩ | (subst he; exact ⟨_, rfl, rfl, by first | rfl | (simpa [avOk] using ht)⟩)
          | lst a xs => cases v <;> simp [OT.d, avD] at he
          | tup a xs => cases v <;> simp [OT.d, avD] at he
          | edct a => cases v <;> simp [OT.d, avD] at he
        | lst a xs => simp [OT.isN] at hn
        | tup a xs => simp [OT.isN] at hn
        | edct a => simp [OT.isD] at hD
      obtain ⟨v, rfl, rfl, hv⟩ := hz
      cases v with
      | ref a => simp [avOk] at hv
      | non =>
        iterate 5 (rw [b_cs]; simp [start, tyAny, kdA, kTab, OT.v, b_nl])
        exact .refl
      | bl b =>
        iterate 4 (rw [b_cs]; simp [start, tyAny, kdA, kTab, OT.v, b_nl])
        exact .refl
      | int i =>
        iterate 4 (rw [b_cs]; simp [start, tyAny, kdA, kTab, OT.v, b_nl])
        exact .refl
      | str x =>
        iterate 6 (rw [b_cs]; simp [start, tyAny, kdA, kTab, OT.v, b_nl, o_eqs hv hv, strEq_refl])
        exact .refl
end AH

set_option Elab.async false
set_option linter.all false
set_option maxRecDepth 100000
set_option maxHeartbeats 400000
/-! AHA: _law_apart. -/
namespace AH
open PySem L2
def late : Str := "late9"
/-- _law_spoilt -/
def b527 : B := (.cons (.ite (.isa (.var 0) true [.dict]) (.cons (.forS (.nm 1) (.seq (.lstE (.var 0))) (.cons (.ex (.call 527 (.cons (.sub (.var 0) (.var 1)) .nil)))
  .nil))
  (.cons (.setix (.var 0) (.str late) (.bin .add (.meth .get2 (.var 0) (.cons (.str late) (.cons (.int 0) .nil))) (.int 1)))
  .nil)) .nil)
  (.cons (.ite (.isa (.var 0) false [.list, .tuple]) (.cons (.forS (.nm 2) (.seq (.var 0)) (.cons (.ex (.call 527 (.cons (.var 2) .nil)))
  .nil))
  .nil) .nil)
  (.cons (.ite (.isa (.var 0) true [.list]) (.cons (.ex (.meth .append (.var 0) (.cons (.str late) .nil)))
  .nil) .nil)
  .nil)))
/-- _law_is_once -/
def b155 : B := (.cons (.ite (.isa (.var 0) true [.dict]) (.cons (.ret (.and (.cmp .eq (.sub (.var 0) (.str late)) (.int 1)) (.blt .all (.cons (.lock 0 (.lcf (.call 155 (.cons (.sub (.var 0) (.var 2)) .nil)) (.nm 2) (.keys (.var 0)) (.cmp .ne (.var 2) (.str late)) [2])) .nil))))
  .nil) .nil)
  (.cons (.ite (.isa (.var 0) false [.list, .tuple]) (.cons (.asg 1 (.blt .int (.cons (.isa (.var 0) true [.list]) .nil)))
  (.cons (.ret (.and (.cmp .eq (.meth .count (.lstE (.var 0)) (.cons (.str late) .nil)) (.var 1)) (.blt .all (.cons (.lc (.call 155 (.cons (.var 3) .nil)) (.nm 3) (.seq (.var 0)) [3]) .nil))))
  .nil)) .nil)
  (.cons (.ret (.bl true))
  .nil)))
/-- _law_apart -/
def b28 : B := (.cons (.ex (.call 527 (.cons (.var 0) .nil)))
  (.cons (.ret (.call 155 (.cons (.var 0) .nil)))
  .nil))
mutual
def OT.sp : OT → OT
  | .sc v => .sc v
  | .lst a xs => .lst a (spL xs ++ [.sc (.str late)])
  | .tup a xs => .tup a (spL xs)
  | .edct a => .edct a
def spL : List OT → List OT
  | [] => []
  | x :: r => x.sp :: spL r
end
mutual
/-- the late text stands nowhere -/
def nol : PyData → Bool
  | .str x => !strEq x late
  | .list xs => nolL xs
  | .tuple xs => nolL xs
  | .dict _ => false
  | _ => true
def nolL : List PyData → Bool
  | [] => true
  | x :: r => nol x && nolL r
end
theorem spL_map : ∀ xs, spL xs = xs.map OT.sp
  | [] => by simp [spL]
  | x :: r => by simp [spL, spL_map r]
theorem nolL_iff : ∀ {xs : List PyData}, nolL xs = true ↔ ∀ x ∈ xs, nol x = true
  | [] => by simp [nolL]
  | x :: r => by simp [nolL, nolL_iff (xs := r)]
@[simp] theorem sp_v : ∀ {t : OT}, t.sp.v = t.v
  | .sc _ => by simp [OT.sp]
  | .lst _ _ => by simp [OT.sp, OT.v]
  | .tup _ _ => by simp [OT.sp, OT.v]
  | .edct _ => by simp [OT.sp]
mutual
theorem sp_ls : ∀ t : OT, t.sp.ls = t.ls
  | .sc _ => by simp [OT.sp]
  | .lst _ xs => by simp [OT.sp, OT.ls, lsL_app, spL_ls xs, lsL]
  | .tup _ xs => by simp [OT.sp, OT.ls, spL_ls xs]
  | .edct _ => by simp [OT.sp]
theorem spL_ls : ∀ xs : List OT, lsL (spL xs) = lsL xs
  | [] => by simp [spL]
  | x :: r => by simp [spL, lsL, sp_ls x, spL_ls r]
end
mutual
theorem OT.Ok.frame {h h' : AHp} {lo : Nat} {L : List Nat} (hn : h.n ≤ h'.n) (hL : ∀ a ∈ L, ∃ xs, h.get a = some (.lst xs)) (hg : ∀ a, a ∉ L → h'.get a = h.get a) : ∀ {t : OT}, t.Ok h lo → (∀ a ∈ t.ls, a ∉ L) → t.Ok h' lo
  | .sc v, q, _ => by simpa [OT.Ok] using q
  | .lst a xs, q, n => by
    simp only [OT.Ok] at q ⊢
    simp only [OT.ls, List.mem_cons] at n
    exact ⟨q.1, Nat.lt_of_lt_of_le q.2.1 hn, by rw [hg a (n a (.inl rfl))]; exact q.2.2.1, q.2.2.2.1, OksL.frame hn hL hg q.2.2.2.2 fun b hb => n b (.inr hb)⟩
  | .tup a xs, q, n => by
    simp only [OT.Ok] at q ⊢
    simp only [OT.ls] at n
    refine ⟨q.1, Nat.lt_of_lt_of_le q.2.1 hn, ?_, q.2.2.2.1, OksL.frame hn hL hg q.2.2.2.2 n⟩
    rw [hg a (fun z => by obtain ⟨ys, e⟩ := hL a z; rw [q.2.2.1] at e; cases e)]
    exact q.2.2.1
  | .edct a, q, n => by
    simp only [OT.Ok] at q ⊢
    refine ⟨q.1, Nat.lt_of_lt_of_le q.2.1 hn, ?_⟩
    rw [hg a (fun z => by obtain ⟨ys, e⟩ := hL a z; rw [q.2.2] at e; cases e)]
    exact q.2.2
theorem OksL.frame {h h' : AHp} {lo : Nat} {L : List Nat} (hn : h.n ≤ h'.n) (hL : ∀ a ∈ L, ∃ xs, h.get a = some (.lst xs)) (hg : ∀ a, a ∉ L → h'.get a = h.get a) : ∀ {ts : List OT}, OksL h lo ts → (∀ a ∈ lsL ts, a ∉ L) → OksL h' lo ts
  | [], q, _ => by simp [OksL]
  | t :: r, q, n => by
    simp only [OksL] at q ⊢
    simp only [lsL, List.mem_append] at n
    exact ⟨OT.Ok.frame hn hL hg q.1 fun a ha => n a (.inl ha), OksL.frame hn hL hg q.2 fun a ha => n a (.inr ha)⟩
end
mutual
theorem OT.Ok.isl {h : AHp} {lo : Nat} : ∀ {t : OT}, t.Ok h lo → ∀ a ∈ t.ls, ∃ xs, h.get a = some (.lst xs)
  | .sc v, q => by simp [OT.ls]
  | .lst a xs, q => by
    simp only [OT.Ok] at q
    intro b hb
    simp only [OT.ls, List.mem_cons] at hb
    rcases hb with e | e
    · subst e; exact ⟨_, q.2.2.1⟩
    · exact OksL.isl q.2.2.2.2 b e
  | .tup a xs, q => by
    simp only [OT.Ok] at q
    intro b hb
    simp only [OT.ls] at hb
    exact OksL.isl q.2.2.2.2 b hb
  | .edct a, q => by simp [OT.ls]
theorem OksL.isl {h : AHp} {lo : Nat} : ∀ {ts : List OT}, OksL h lo ts → ∀ a ∈ lsL ts, ∃ xs, h.get a = some (.lst xs)
  | [], q => by simp [lsL]
  | t :: r, q => by
    simp only [OksL] at q
    intro b hb
    simp only [lsL, List.mem_append] at hb
    rcases hb with e | e
    · exact OT.Ok.isl q.1 b e
    · exact OksL.isl q.2 b e
end
def SpPost (t : OT) (lo : Nat) (h : AHp) (_ : AV) (h' : AHp) : Prop := t.sp.Ok h' lo ∧ h'.n = h.n ∧ ∀ a, a ∉ t.ls → h'.get a = h.get a
/-- the loop over a node's parts -/
theorem spoil_loop {xs : List OT} {h : AHp} {lo : Nat} {it : It} {turn : List AV → Sl → AHp → SRs} {σ : Sl} {N : Sl → AHp → Prop} {R : QV} {J : Sl → Prop} (q : OksL h lo xs) (nd : (lsL xs).Nodup) (hl : it.len = xs.length)
    (hi : ∀ h', (∀ a, a ∉ lsL xs → h'.get a = h.get a) → it.fin h' = true ∧ ∀ i (hi : i < xs.length), it.item i h' = some [(xs[i]).v])
    (hj : J σ)
    (ih : ∀ i (hi : i < xs.length) h' σ', (xs[i]).Ok h' lo → J σ' → okS (turn [(xs[i]).v] σ' h') (fun σ'' h'' => J σ'' ∧ SpPost (xs[i]) lo h' .non h'') R noX)
    (fin : ∀ σ' h', J σ' → OksL h' lo (spL xs) → h'.n = h.n → (∀ a, a ∉ lsL xs → h'.get a = h.get a) → N σ' h') : okS (forGo it turn it.len 0 σ h) N R noX := by
  have key : ∀ i (hi : i < xs.length), lsL (xs.take i) ++ (xs[i]).ls ++ lsL (xs.drop (i + 1)) = lsL xs := by
    intro i hi
    have e : lsL (xs.take i) ++ lsL [xs[i]] ++ lsL (xs.drop (i + 1)) = lsL xs := by
      rw [← lsL_app, ← lsL_app, ← take_step hi, List.take_append_drop]
    simpa [lsL] using e
  have sub : ∀ i a, a ∈ lsL (xs.take i) → a ∈ lsL xs := by
    intro i a ha
    obtain ⟨x, hx, hx'⟩ := lsL_mem.1 ha
    exact lsL_mem.2 ⟨x, List.mem_of_mem_take hx, hx'⟩
  refine okS_for (fun i σ' h' => J σ' ∧ h'.n = h.n ∧ (∀ a, a ∉ lsL (xs.take i) → h'.get a = h.get a) ∧ OksL h' lo (spL (xs.take i))) ?_ ?_ _ _ _ _ (by simp) ⟨hj, rfl, fun a _ => rfl, by simp [spL, OksL]⟩
  · intro i σ' h' hi' ⟨q1, q2, q3, q4⟩
    rw [hl] at hi'
    refine ⟨_, (hi h' fun a ha => q3 a fun z => ha (sub i a z)).2 i hi', ?_⟩
    have nd' := nd
    rw [← key i hi', List.nodup_append, List.nodup_append] at nd'
    have dis := nd'.1.2.2
    have ok1 : (xs[i]).Ok h lo := OksL_iff.1 q _ (List.getElem_mem hi')
    have ok2 : (xs[i]).Ok h' lo := by
      refine ok1.frame (L := lsL (xs.take i)) (Nat.le_of_eq q2.symm) (fun a ha => q.isl a (sub i a ha)) q3 fun a ha z => dis a z a ha rfl
    refine okS_mono (ih i hi' h' σ' ok2 q1) (fun σ'' h'' ⟨m1, m2, m3, m4⟩ => ⟨m1, m3.trans q2, fun a ha => ?_, ?_⟩) fun _ _ q => q
    · rw [take_step hi', lsL_app, List.mem_append, not_or] at ha
      rw [m4 a (by simpa [lsL] using ha.2), q3 a ha.1]
    · rw [take_step hi', spL_map, List.map_append, ← spL_map]
      refine .app (q4.frame (L := (xs[i]).ls) (Nat.le_of_eq m3.symm) ok2.isl m4 fun a ha z => ?_) (by simpa [OksL] using m2)
      rw [spL_ls] at ha
      exact dis a ha a z rfl
  · intro σ' h' ⟨q1, q2, q3, q4⟩
    rw [hl, List.take_of_length_le (Nat.le_refl _)] at q3 q4
    exact ⟨(hi h' q3).1, fin σ' h' q1 q4 q2 q3⟩
theorem spoilt_ok {P : Prog} {F : Nat} (hb : Has P 527 3 1 b527) : ∀ (d : Nat) (t : OT) (h : AHp) (lo : Nat), t.Ok h lo → t.ls.Nodup → dsz t.d < 16000000 → nol t.d = true → t.dp < d → okR (run P F d 527 [t.v] h) (SpPost t lo h) noX
  | 0, t, h, lo, ht, nd, hz, hnl, hd => by omega
  | d + 1, t, h, lo, ht, nd, hz, hnl, hd => by
    have hD : t.isD = false := by cases t <;> first | rfl | (simp [OT.d, nol] at hnl)
    refine okR_run hb rfl ?_
    unfold b527
    rw [b_cs]
    simp [start, tyAny_ot ht, b_nl, hD]
    rw [b_cs]
    simp [tyAny_ot ht, b_nl]
    have ihx : ∀ (xs : List OT) (e : t.kids = xs) i (hi : i < xs.length) (h' : AHp) (σ' : Sl), (xs[i]).Ok h' lo → (∃ o, σ' = [some t.v, none, o]) → okS (evB ⟨P, run P F d, F⟩ (.cons (.ex (.call 527 (.cons (.var 2) .nil))) .nil) (σ'.set 2 (some (xs[i]).v)) h') (fun σ'' h'' => (∃ o, σ'' = [some t.v, none, o]) ∧ SpPost (xs[i]) lo h' .non h'') (fun v h_1 => SpPost t lo h v h_1) noX := by
      intro xs e i hi h' σ' ok ⟨o, e1⟩
      subst e1
      subst e
      rw [b_cs]
      simp
      have hm := List.getElem_mem hi
      have nd' : (t.kids[i]).ls.Nodup := by
        have h1 : (lsL t.kids).Nodup := by
          cases t with
          | sc v => simp [OT.kids] at hi
          | edct a => simp [OT.kids] at hi
          | lst a xs => simp only [OT.ls, List.nodup_cons] at nd; exact nd.2
          | tup a xs => simp only [OT.ls] at nd; exact nd
        have e : lsL (t.kids.take i) ++ lsL [t.kids[i]] ++ lsL (t.kids.drop (i + 1)) = lsL t.kids := by
          rw [← lsL_app, ← lsL_app, ← take_step hi, List.take_append_drop]
        rw [← e, List.nodup_append, List.nodup_append] at h1
        simpa [lsL] using h1.1.2.1
      have hn : t.isN = true := by cases t <;> first | rfl | (simp [OT.kids] at hi)
      have hz' := OT.dsz_d hn
      have hz2 := dszL_mem (List.mem_map_of_mem (f := OT.d) hm)
      have hnk : nol (t.kids[i]).d = true := by
        rw [OT.d_kids hn] at hnl
        have : nolL (t.kids.map OT.d) = true := by cases h2 : t.isL <;> simp [h2, nol] at hnl <;> exact hnl
        exact nolL_iff.1 this _ (List.mem_map_of_mem hm)
      refine okR_mono (spoilt_ok hb d (t.kids[i]) h' lo ok nd' (by omega) hnk (by have := OT.dp_kid hm; omega)) fun v h'' q => ?_
      rw [b_nl]
      exact ⟨⟨_, rfl⟩, q⟩
    cases t with
    | edct a => simp [OT.isD] at hD
    | sc v =>
      simp [OT.isN]
      rw [b_cs]
      simp [tyAny_ot ht, OT.isL, b_nl]
      exact ⟨by simpa [OT.sp, OT.Ok] using ht, rfl, fun _ _ => rfl⟩
    | lst a xs =>
      have ht' := ht
      simp only [OT.Ok] at ht'
      simp only [OT.ls, List.nodup_cons] at nd
      simp only [OT.isN, if_true]
      rw [b_cs, s_for']
      simp only [i_seq', e_var]
      simp [seqIt_ot ht rfl]
      refine spoil_loop (J := fun σ => ∃ o, σ = [some (OT.lst a xs).v, none, o]) ht'.2.2.2.2 nd.2 rfl ?_ ⟨_, rfl⟩ (fun i hi h' σ' ok j => ihx xs rfl i hi h' σ' ok j) ?_
      · intro h' hg
        have : h'.get a = some (.lst (xs.map OT.v)) := by rw [hg a nd.1]; exact ht'.2.2.1
        refine ⟨by simp [It.fin, OT.it, this], fun i hi => ?_⟩
        simp [It.item, OT.it, It.one, this, hi]
      · intro σ' h' ⟨o, e⟩ ok hn hg
        subst e
        have g : h'.get a = some (.lst (xs.map OT.v)) := by rw [hg a nd.1]; exact ht'.2.2.1
        rw [b_nl, b_cs]
        have hsz : xs.length < 16000000 := by
          simp only [OT.d, dsz, dsL_map] at hz
          have := dszL_len (xs.map OT.d)
          simp at this
          omega
        have hap : ∀ {Q : QV} {X}, okR (methA .append h' (.ref a) [.str late]) Q X = Q .non (h'.set a (.lst (xs.map OT.v ++ [.str late]))) := by
          intro Q X
          unfold methA
          simp only [g]
          rw [if_pos (show Nat.blt (xs.map OT.v).length 16777216 = true from Nat.ble_eq_true_of_le (by simp; omega))]; rfl
        have hk : kdA h' (OT.lst a xs).v = some .lst := by simp only [OT.v, kdA, g]
        simp [tyAny, hk, kTab, b_cs, b_nl]
        simp only [OT.v, mOk_lst g (.inl rfl), hap, if_true]
        refine ⟨trivial, ?_, by simp [hn], fun b hb => ?_⟩
        · simp only [OT.sp, OT.Ok]
          refine ⟨ht'.1, by simp [hn]; exact ht'.2.1, by rw [AHp.get_set, if_pos rfl, spL_map]; simp [Function.comp_def]; rfl, by simp [spL_map]; omega, .app (ok.frame (L := [a]) (by simp) (fun b hb => by simp at hb; subst hb; exact ⟨_, g⟩) (fun b hb => by simp at hb; rw [AHp.get_set, if_neg hb]) fun b hb z => ?_) (by simp [OksL, OT.Ok]; decide)⟩
          simp at z; subst z
          rw [spL_ls] at hb
          exact nd.1 hb
        · simp only [OT.ls, List.mem_cons, not_or] at hb
          rw [AHp.get_set, if_neg hb.1, hg b hb.2]
    | tup a xs =>
      have ht' := ht
      simp only [OT.Ok] at ht'
      simp only [OT.ls] at nd
      simp only [OT.isN, if_true]
      rw [b_cs, s_for']
      simp only [i_seq', e_var]
      simp [seqIt_ot ht rfl]
      refine spoil_loop (J := fun σ => ∃ o, σ = [some (OT.tup a xs).v, none, o]) ht'.2.2.2.2 nd (by simp [OT.it, It.len]) ?_ ⟨_, rfl⟩ (fun i hi h' σ' ok j => ihx xs rfl i hi h' σ' ok j) ?_
      · intro h' hg
        refine ⟨by simp [It.fin, OT.it], fun i hi => ?_⟩
        simp [It.item, OT.it, It.one, hi]
      · intro σ' h' ⟨o, e⟩ ok hn hg
        subst e
        have g : h'.get a = some (.tup (xs.map OT.v)) := by
          rw [hg a (fun z => by obtain ⟨ys, e⟩ := ht'.2.2.2.2.isl a z; rw [ht'.2.2.1] at e; cases e)]; exact ht'.2.2.1
        rw [b_nl, b_cs]
        have hk : kdA h' (OT.tup a xs).v = some .tup := by simp only [OT.v, kdA, g]
        simp [tyAny, hk, kTab, b_nl]
        refine ⟨?_, hn, fun b hb => hg b (by simpa [OT.ls] using hb)⟩
        simp only [OT.sp, OT.Ok]
        exact ⟨ht'.1, by rw [hn]; exact ht'.2.1, by rw [g, spL_map]; simp [Function.comp_def], by simpa [spL_map] using ht'.2.2.2.1, ok⟩
section
variable {h : AHp} {Q : QV} {X : QX}
theorem strEq_comm (x y : Str) : strEq x y = strEq y x := by
  unfold strEq
  rw [Bool.eq_iff_iff, beq_iff_eq, beq_iff_eq]
  exact ⟨Eq.symm, Eq.symm⟩
theorem countA_ref {z : Str} {a : Nat} {r : List AV} {n : Nat} (g : (∃ xs, h.get a = some (.lst xs)) ∨ ∃ xs, h.get a = some (.tup xs)) (e : countA h z r = some n) : countA h z (.ref a :: r) = some n := by
  rcases g with ⟨xs, g⟩ | ⟨xs, g⟩ <;> simp only [countA, e, g]
theorem count_sp {lo : Nat} : ∀ (ts : List OT) (r : List AV) (n : Nat), OksL h lo ts → nolL (ts.map OT.d) = true → countA h late r = some n → countA h late (ts.map OT.v ++ r) = some n
  | [], r, n, _, _, e => by simpa using e
  | t :: ts, r, n, q, l, e => by
    simp only [OksL] at q
    simp only [List.map_cons, nolL, Bool.and_eq_true] at l
    have ih := count_sp ts r n q.2 l.2 e
    simp only [List.map_cons, List.cons_append]
    cases t with
    | sc v =>
      cases v with
      | ref a => simp [OT.Ok, avOk] at q
      | str x =>
        simp only [OT.v, countA, ih]
        have : strEq x late = false := by simpa [OT.d, avD, nol] using l.1
        rw [this]; rfl
      | _ => simp only [OT.v, countA, ih]
    | lst a xs =>
      simp only [OT.Ok] at q
      exact countA_ref (.inl ⟨_, q.1.2.2.1⟩) ih
    | tup a xs =>
      simp only [OT.Ok] at q
      exact countA_ref (.inr ⟨_, q.1.2.2.1⟩) ih
    | edct a => simp [OT.d, nol] at l
end
/-- spoilt parts count like parts -/
theorem count_spL {h : AHp} {lo : Nat} : ∀ (ts : List OT) (r : List AV) (n : Nat), OksL h lo (spL ts) → nolL (ts.map OT.d) = true → countA h late r = some n → countA h late (ts.map OT.v ++ r) = some n
  | [], r, n, _, _, e => by simpa using e
  | t :: ts, r, n, q, l, e => by
    simp only [OksL, spL] at q
    simp only [List.map_cons, nolL, Bool.and_eq_true] at l
    have ih := count_spL ts r n q.2 l.2 e
    simp only [List.map_cons, List.cons_append]
    cases t with
    | sc v =>
      cases v with
      | ref a => simp [OT.sp, OT.Ok, avOk] at q
      | str x =>
        simp only [OT.v, countA, ih]
        have : strEq x late = false := by simpa [OT.d, avD, nol] using l.1
        rw [this]; rfl
      | _ => simp only [OT.v, countA, ih]
    | lst a xs =>
      simp only [OT.sp, OT.Ok] at q
      exact countA_ref (.inl ⟨_, q.1.2.2.1⟩) ih
    | tup a xs =>
      simp only [OT.sp, OT.Ok] at q
      exact countA_ref (.inr ⟨_, q.1.2.2.1⟩) ih
    | edct a => simp [OT.d, nol] at l
theorem o_count {h : AHp} {Q : QV} {X : QX} {a n : Nat} {xs : List AV} {z : Str} (g : h.get a = some (.lst xs)) (e : countA h z xs = some n) : okR (methA .count h (.ref a) [.str z]) Q X = Q (.int n) h := by
  unfold methA
  simp only [g, e]; rfl
theorem once_ok {P : Prog} {F : Nat} (hb : Has P 155 4 1 b155) : ∀ (d : Nat) (t : OT) (h : AHp) (lo : Nat), t.sp.Ok h lo → nol t.d = true → t.dp + 1 < d → okR (run P F d 155 [t.v] h) (fun v h' => v = .bl true ∧ Keep noA h h') noX
  | 0, t, h, lo, ht, hz, hd => by omega
  | d + 1, t, h, lo, ht, hz, hd => by
    refine okR_run hb rfl ?_
    unfold b155
    obtain ⟨u, hu⟩ : ∃ u, u = t.sp := ⟨_, rfl⟩
    have hD : u.isD = false := by subst hu; cases t <;> first | (simp [OT.sp, OT.isD]; done) | (simp [OT.d, nol] at hz)
    rw [b_cs, ← sp_v, ← hu]
    rw [← hu] at ht
    simp [start, tyAny_ot ht, b_nl, hD]
    rw [b_cs]
    simp [tyAny_ot ht, b_nl]
    by_cases hn : u.isN = true
    · simp only [hn, if_true]
      rw [b_cs]
      simp [tyAny_ot ht]
      have e1 : ∀ {Q : QV} {X}, okR (bltA .int h [.bl u.isL]) Q X = Q (.int (if u.isL then 1 else 0)) h := by intro Q X; rfl
      rw [e1, b_cs]
      simp [o_lstE (ht.vals hn)]
      have g : ∀ {o}, (h.add o).get h.n = some o := by intro o; rw [AHp.get_add, if_pos rfl]
      have ht1 := ht.keep (Keep.add (A := noA) (o := .lst (u.kids.map OT.v))) noA_lt
      have hc : countA (h.add (.lst (u.kids.map OT.v))) late (u.kids.map OT.v) = some (if u.isL then 1 else 0) := by
        subst hu
        cases t with
        | sc v => simp [OT.sp, OT.isN] at hn
        | edct a => simp [OT.sp, OT.isN] at hn
        | lst a xs =>
          simp only [OT.sp, OT.kids, OT.isL, if_true, List.map_append, spL_map, List.map_map, Function.comp_def, sp_v] at ht1 ⊢
          simp only [OT.Ok] at ht1
          have := ht1.2.2.2.2
          rw [← spL_map, OksL_iff] at this
          refine count_spL xs _ 1 (OksL_iff.2 fun x hx => this x (by simp [hx])) (by simpa [OT.d, dsL_map, nol] using hz) ?_
          simp [OT.v, countA, strEq_refl]
        | tup a xs =>
          simp only [OT.sp, OT.kids, OT.isL, spL_map, List.map_map, Function.comp_def, sp_v] at ht1 ⊢
          simp only [OT.Ok] at ht1
          have := ht1.2.2.2.2
          rw [← spL_map] at this
          have := count_spL xs [] 0 this (by simpa [OT.d, dsL_map, nol] using hz) rfl
          simpa using this
      simp [mOk_lst g (.inr (.inr (.inr (.inr rfl)))), o_count g hc]
      have e2 : (((if u.isL = true then 1 else 0 : Nat) : Int) == if u.isL = true then 1 else 0) = true := by cases u.isL <;> rfl
      rw [e2]
      simp
      refine lc_kids (A := noA) (fun i acc h' => acc = List.replicate i (.bl true)) ht1 hn noA_lt rfl rfl ?_ ?_
      · intro i acc h' hi k l q
        simp [wipeA]
        have hk := (ht1.keep k noA_lt).kid (List.getElem_mem hi)
        have hm := List.getElem_mem hi
        have hcase : (∃ y ∈ t.kids, u.kids[i] = y.sp) ∨ u.kids[i] = (OT.sc (.str late)).sp := by
          subst hu
          cases t with
          | sc v => simp [OT.sp, OT.kids] at hi
          | edct a => simp [OT.sp, OT.kids] at hi
          | lst a xs =>
            simp only [OT.sp, OT.kids, spL_map, List.mem_append, List.mem_map, List.mem_singleton] at hm ⊢
            rcases hm with ⟨y, h1, h2⟩ | h2
            · exact .inl ⟨y, h1, h2.symm⟩
            · exact .inr h2
          | tup a xs =>
            simp only [OT.sp, OT.kids, spL_map, List.mem_map] at hm ⊢
            obtain ⟨y, h1, h2⟩ := hm
            exact .inl ⟨y, h1, h2.symm⟩
        have fin : ∀ v h'', v = .bl true ∧ Keep noA h' h'' → Keep noA h' h'' ∧ acc ++ [v] = List.replicate (i + 1) (.bl true) := fun v h'' ⟨m1, m2⟩ => ⟨m2, by rw [q, m1, ← List.replicate_succ']⟩
        rcases hcase with ⟨y, hy, e⟩ | e
        · rw [e] at hk ⊢
          rw [sp_v]
          refine okR_mono (once_ok hb d y h' lo hk ?_ (by have := OT.dp_kid hy; omega)) fin
          have hn' : t.isN = true := by cases t <;> first | rfl | (simp [OT.kids] at hy)
          rw [OT.d_kids hn'] at hz
          have : nolL (t.kids.map OT.d) = true := by cases h2 : t.isL <;> simp [h2, nol] at hz <;> exact hz
          exact nolL_iff.1 this _ (List.mem_map_of_mem hy)
        · rw [e, sp_v]
          obtain ⟨d', rfl⟩ : ∃ d', d = d' + 1 := ⟨d - 1, by omega⟩
          refine okR_mono (Q := fun v h'' => v = .bl true ∧ Keep noA h' h'') ?_ fin
          refine okR_run hb rfl ?_
          unfold b155
          iterate 3 (rw [b_cs]; simp [start, tyAny, kdA, kTab, OT.v, b_nl])
          exact .refl
      · intro acc h' k l q
        rw [o_allT (n := u.kids.length) (by rw [AHp.get_add, if_pos rfl, q])]
        exact ⟨rfl, (Keep.add.trans k).trans .add⟩
    · simp [hn]
      rw [b_cs]
      simp
      exact .refl
/-- all lists of a tree have places of their own -/
theorem apart_ok {P : Prog} {F d lo : Nat} {t : OT} {h : AHp} {Q : QV} {X : QX} (hb : Has P 28 1 1 b28) (hb1 : Has P 527 3 1 b527) (hb2 : Has P 155 4 1 b155) (ht : t.Ok h lo) (nd : t.ls.Nodup) (hz : dsz t.d < 16000000) (hl : nol t.d = true) (hd : t.dp + 1 < d)
    (k : ∀ h', Keep (fun a => a ∈ t.ls) h h' → Q (.bl true) h') : okR (run P F (d + 1) 28 [t.v] h) Q X := by
  refine okR_run hb rfl ?_
  unfold b28
  rw [b_cs]
  simp [start]
  refine okR_to (spoilt_ok hb1 d t h lo ht nd hz hl (by omega)) fun v h1 ⟨m1, m2, m3⟩ => ?_
  rw [b_cs]
  simp
  refine okR_to (once_ok hb2 d t h1 lo m1 hl hd) fun v h2 ⟨m4, m5⟩ => ?_
  subst m4
  refine k h2 (Keep.trans ⟨Nat.le_of_eq m2.symm, fun a _ n => m3 a n⟩ m5.noA)
end AH

set_option Elab.async false
set_option linter.all false
set_option maxRecDepth 100000
set_option maxHeartbeats 400000
/-! AHR: more steps, small functions. -/
namespace AH
open PySem L2
section
variable {C : Cf} {σ : Sl} {h : AHp} {Q : QV} {X : QX} {N : Sl → AHp → Prop} {R : QV}
theorem e_lcf {e c : E} {g : G} {it : I} {own : List Nat} : okR (evE C (.lcf e g it c own) σ h) Q X = okR (evI C it σ h) (fun t h1 => okR (compGo t (fun vs h2 => match bindIt h2 g vs (wipeA σ own) with
        | some σ1 => (truthR (evE C c σ1 h2)).bind fun b h3 => if b then (evE C e σ1 h3).bind fun v h4 => .ok (some v) h4 else .ok none h3
        | none => .no) t.len 0 [] h1) (fun xs h4 => Q (.ref h4.n) (h4.add (.lst xs))) X) X := by simp only [evE, okR_bind, okR_ok] <;> rfl
@[simp] theorem e_callk {f : Nat} {es : L} {perm : List Nat} : okR (evE C (.callk f es perm) σ h) Q X = okR (evL C es σ h) (fun vs h1 => okR (match permA vs perm with | some ws => C.callf f ws h1 | none => .no) Q X) X := by simp only [evE, okR_bind] <;> rfl
@[simp] theorem e_sl {a lo hi : E} : okR (evE C (.sl a lo hi) σ h) Q X = okR (evE C a σ h) (fun v h1 => okR (evE C lo σ h1) (fun w h2 => match optP lo w with | some l => okR (evE C hi σ h2) (fun z h3 => match optP hi z with | some u => okR (slA h3 v l u) Q X | none => False) X | none => False) X) X := by
  simp only [evE, okR_bind]
  congr 1; funext v h1; congr 1; funext w h2
  cases optP lo w with
  | none => rfl
  | some l =>
    simp only [okR_ok]
    congr 1; funext z h3
    cases optP hi z <;> rfl
@[simp] theorem e_lstR1 {a : E} : okR (evE C (.lstR1 a) σ h) Q X = okR (evE C a σ h) (fun v h1 => match v with | .int j => if rngOk j && isz j.toNat then Q (.ref h1.n) (h1.add (.lst (rngL 0 j.toNat))) else False | _ => False) X := by
  simp only [evE, okR_bind]
  congr 1; funext v h1; cases v <;> try rfl
  simp only; split <;> rfl
@[simp] theorem e_neg {a : E} : okR (evE C (.neg a) σ h) Q X = okR (evE C a σ h) (fun v h1 => match v with | .int i => Q (.int (-i)) h1 | _ => False) X := by
  simp only [evE, okR_bind]
  congr 1; funext v h1; cases v <;> rfl
theorem s_asgP' {is : List Nat} {es : L} : okS (evS C (.asgP is es) σ h) N R X = okR (evL C es σ h) (fun vs h1 => if vs.length = is.length then N ((is.zip vs).foldl (fun s p => s.set p.1 (some p.2)) σ) h1 else False) X := by
  simp only [evS, okS_sbind]
  congr 1; funext vs h1; split <;> rfl
theorem s_asgT' {gs : Gs} {e : E} : okS (evS C (.asgT gs e) σ h) N R X = okR (evE C e σ h) (fun v h1 => match bindG h1 (.tp gs) v σ with | some σ1 => N σ1 h1 | none => False) X := by
  simp only [evS, okS_sbind]
  congr 1; funext v h1; cases bindG h1 (.tp gs) v σ <;> rfl
end
@[simp] theorem isz2 : isz 2 = true := rfl
@[simp] theorem isz3 : isz 3 = true := rfl
@[simp] theorem isz1 : isz 1 = true := rfl
@[simp] theorem isz0 : isz 0 = true := rfl
@[simp] theorem isz4 : isz 4 = true := rfl
@[simp] theorem isz5 : isz 5 = true := rfl
theorem isz_ok {n : Nat} (h : n ≤ 16777216) : isz n = true := Nat.ble_eq_true_of_le h
def Cnd (v : AV) (T E : Prop) : Prop := ∃ b, v = .bl b ∧ if b = true then T else E
/-- a filtered comprehension over a node's parts -/
theorem lcf_kids {C : Cf} {σ : Sl} {h0 h : AHp} {Q : QV} {X : QX} {e e0 cc : E} {g : Nat} {own : List Nat} {t : OT} {lo : Nat} {A : Nat → Prop} (I : Nat → List AV → AHp → Prop) (ht : t.Ok h lo) (hn : t.isN = true) (hA : ∀ a, A a → a < lo) (hx : ∀ {Q : QV}, okR (evE C e0 σ h0) Q X = Q t.v h) (hz : I 0 [] h)
    (hs : ∀ i acc h' (hi : i < t.kids.length), Keep A h h' → I i acc h' → okR (evE C cc ((wipeA σ own).set g (some (t.kids[i]).v)) h') (fun v h1 => Cnd v (okR (evE C e ((wipeA σ own).set g (some (t.kids[i]).v)) h1) (fun y h'' => Keep A h' h'' ∧ I (i + 1) (acc ++ [y]) h'') noX) (Keep A h' h1 ∧ I (i + 1) acc h1)) noX)
    (he : ∀ acc h', Keep A h h' → acc.length ≤ t.kids.length → I t.kids.length acc h' → Q (.ref h'.n) (h'.add (.lst acc))) : okR (evE C (.lcf e (.nm g) (.seq e0) cc own) σ h0) Q X := by
  rw [e_lcf]
  simp only [i_seq', hx, seqIt_ot ht hn]
  refine okR_comp (fun i acc h' => Keep A h h' ∧ acc.length ≤ i ∧ I i acc h') ?_ ?_ _ _ _ _ (by simp) ⟨.refl, by simp, hz⟩
  · intro i acc h' hi ⟨k, l, q⟩
    rw [OT.it_len] at hi
    refine ⟨_, item_ot (ht.keep k hA) hn hi, ?_⟩
    show okR ((truthR (evE C cc ((wipeA σ own).set g (some (t.kids[i]).v)) h')).bind fun b h3 => if b then (evE C e ((wipeA σ own).set g (some (t.kids[i]).v)) h3).bind fun v h4 => .ok (some v) h4 else .ok none h3) _ noX
    rw [okR_bind, r_truth]
    refine okR_mono (hs i acc h' hi k q) fun v h1 ⟨b, e1, q'⟩ => ?_
    subst e1
    have := ht.klen
    simp only [tr_bl]
    cases b with
    | true =>
      simp only [if_true] at q' ⊢
      rw [okR_bind]
      exact okR_mono q' fun y h'' q' => ⟨by omega, k.trans q'.1, by simp; omega, q'.2⟩
    | false =>
      simp at q' ⊢
      exact ⟨k.trans q'.1, by omega, q'.2⟩
  · intro acc h' ⟨k, l, q⟩
    rw [OT.it_len] at l q
    exact ⟨fin_ot (ht.keep k hA) hn, he acc h' k l q⟩
/-- a comprehension over a node's parts, of any text -/
theorem lc_kids' {C : Cf} {σ : Sl} {h : AHp} {Q : QV} {X : QX} {e e0 : E} {g : Nat} {own : List Nat} {t : OT} {lo : Nat} {A : Nat → Prop} (I : Nat → List AV → AHp → Prop) (ht : t.Ok h lo) (hn : t.isN = true) (hA : ∀ a, A a → a < lo) (hx : ∀ {Q : QV}, okR (evE C e0 σ h) Q X = Q t.v h) (h0 : I 0 [] h)
    (hs : ∀ i acc h' (hi : i < t.kids.length), Keep A h h' → acc.length = i → I i acc h' → okR (evE C e ((wipeA σ own).set g (some (t.kids[i]).v)) h') (fun y h'' => Keep A h' h'' ∧ I (i + 1) (acc ++ [y]) h'') noX)
    (he : ∀ acc h', Keep A h h' → acc.length = t.kids.length → I t.kids.length acc h' → Q (.ref h'.n) (h'.add (.lst acc))) : okR (evE C (.lc e (.nm g) (.seq e0) own) σ h) Q X := by
  rw [e_lc]
  simp only [i_seq', hx, seqIt_ot ht hn]
  refine okR_comp (fun i acc h' => Keep A h h' ∧ acc.length = i ∧ I i acc h') ?_ ?_ _ _ _ _ (by simp) ⟨.refl, rfl, h0⟩
  · intro i acc h' hi ⟨k, l, q⟩
    rw [OT.it_len] at hi
    refine ⟨_, item_ot (ht.keep k hA) hn hi, ?_⟩
    show okR ((evE C e ((wipeA σ own).set g (some (t.kids[i]).v)) h').bind fun v h3 => .ok (some v) h3) _ noX
    rw [okR_bind]
    refine okR_mono (hs i acc h' hi k l q) fun y h'' q' => ?_
    have := ht.klen
    exact ⟨by omega, k.trans q'.1, by simp [l], q'.2⟩
  · intro acc h' ⟨k, l, q⟩
    rw [OT.it_len] at l q
    exact ⟨fin_ot (ht.keep k hA) hn, he acc h' k l q⟩
/-- a filtered comprehension over two nodes' parts -/
theorem lcf_zip {C : Cf} {σ : Sl} {h : AHp} {Q : QV} {X : QX} {e a0 b0 cc : E} {g g' : Nat} {own : List Nat} {t u : OT} {lo lo' : Nat} {A : Nat → Prop} (I : Nat → List AV → AHp → Prop) (ht : t.Ok h lo) (hu : u.Ok h lo') (hn : t.isN = true) (hn' : u.isN = true) (hl : t.isL = u.isL) (hk : t.kids.length = u.kids.length) (hA : ∀ a, A a → a < lo) (hA' : ∀ a, A a → a < lo')
    (hx : ∀ {Q : It → AHp → Prop}, okR (evI C (.zip a0 b0) σ h) Q X = Q (.zp t.it u.it) h) (h0 : I 0 [] h)
    (hs : ∀ i acc h' (hi : i < t.kids.length), Keep A h h' → I i acc h' → okR (evE C cc (((wipeA σ own).set g (some (t.kids[i]).v)).set g' (some (u.kids[i]'(by omega)).v)) h') (fun v h1 => Cnd v (okR (evE C e (((wipeA σ own).set g (some (t.kids[i]).v)).set g' (some (u.kids[i]'(by omega)).v)) h1) (fun y h'' => Keep A h' h'' ∧ I (i + 1) (acc ++ [y]) h'') noX) (Keep A h' h1 ∧ I (i + 1) acc h1)) noX)
    (he : ∀ acc h', Keep A h h' → acc.length ≤ t.kids.length → I t.kids.length acc h' → Q (.ref h'.n) (h'.add (.lst acc))) : okR (evE C (.lcf e (.tp (.cons (.nm g) (.cons (.nm g') .nil))) (.zip a0 b0) cc own) σ h) Q X := by
  rw [e_lcf, hx]
  have hlen : (It.zp t.it u.it).len = t.kids.length := by simp only [It.len, OT.it_len, ← hk, Nat.min_self]
  refine okR_comp (fun i acc h' => Keep A h h' ∧ acc.length ≤ i ∧ I i acc h') ?_ ?_ _ _ _ _ (by simp) ⟨.refl, by simp, h0⟩
  · intro i acc h' hi ⟨k, l, q⟩
    rw [hlen] at hi
    refine ⟨[(t.kids[i]).v, (u.kids[i]'(by omega)).v], ?_, ?_⟩
    · simp only [It.item, one_ot (ht.keep k hA) hn hi, one_ot (hu.keep k hA') hn' (show i < u.kids.length by omega)]
    show okR ((truthR (evE C cc (((wipeA σ own).set g (some (t.kids[i]).v)).set g' (some (u.kids[i]'(by omega)).v)) h')).bind fun b h3 => if b then (evE C e (((wipeA σ own).set g (some (t.kids[i]).v)).set g' (some (u.kids[i]'(by omega)).v)) h3).bind fun v h4 => .ok (some v) h4 else .ok none h3) _ noX
    rw [okR_bind, r_truth]
    refine okR_mono (hs i acc h' hi k q) fun v h1 ⟨b, e1, q'⟩ => ?_
    subst e1
    have := ht.klen
    simp only [tr_bl]
    cases b with
    | true =>
      simp only [if_true] at q' ⊢
      rw [okR_bind]
      exact okR_mono q' fun y h'' q' => ⟨by omega, k.trans q'.1, by simp; omega, q'.2⟩
    | false =>
      simp at q' ⊢
      exact ⟨k.trans q'.1, by omega, q'.2⟩
  · intro acc h' ⟨k, l, q⟩
    rw [hlen] at l q
    refine ⟨?_, he acc h' k l q⟩
    simp only [It.fin, fin_ot (ht.keep k hA) hn, fin_ot (hu.keep k hA') hn']; rfl
/-! ### is_list, is_integer, is_number -/
def b856 : B := (.cons (.ret (.isa (.var 0) false [.list, .tuple]))
  .nil)
def b848 : B := (.cons (.ret (.and (.isa (.var 0) true [.int]) (.not (.isa (.var 0) true [.bool]))))
  .nil)
def b864 : B := (.cons (.ret (.and (.call 848 (.cons (.var 0) .nil)) (.cmp .ge (.var 0) (.int 0))))
  .nil)
theorem isList_ok {P : Prog} {F d lo : Nat} {t : OT} {h : AHp} {Q : QV} {X : QX} (hb : Has P 856 1 1 b856) (ht : t.Ok h lo) : okR (run P F (d + 1) 856 [t.v] h) Q X = Q (.bl t.isN) h := by
  unfold run runB
  unfold Has at hb
  simp only [hb]
  rw [if_pos (by rfl), okR_fin]
  unfold b856
  rw [b_cs]
  simp [start, tyAny_ot ht]
theorem isInt_ok {P : Prog} {F d : Nat} {i : Int} {h : AHp} {Q : QV} {X : QX} (hb : Has P 848 1 1 b848) : okR (run P F (d + 1) 848 [.int i] h) Q X = Q (.bl true) h := by
  unfold run runB
  unfold Has at hb
  simp only [hb]
  rw [if_pos (by rfl), okR_fin]
  unfold b848
  rw [b_cs]
  simp [start, tyAny, kdA, kTab]
theorem isNum_ok {P : Prog} {F d : Nat} {i : Int} {h : AHp} {Q : QV} {X : QX} (hb0 : Has P 848 1 1 b848) (hb : Has P 864 1 1 b864) : okR (run P F (d + 2) 864 [.int i] h) Q X = Q (.bl (decide (0 ≤ i))) h := by
  unfold run runB
  unfold Has at hb
  simp only [hb]
  rw [if_pos (by rfl), okR_fin]
  unfold b864
  rw [b_cs]
  simp [start, isInt_ok hb0]
theorem o_extend {h : AHp} {a b : Nat} {xs ys : List AV} {Q : QV} {X : QX} (g : h.get a = some (.lst xs)) (g' : h.get b = some (.lst ys)) (hl : xs.length + ys.length ≤ 16777216) : okR (methA .extend h (.ref a) [.ref b]) Q X = Q .non (h.set a (.lst (xs ++ ys))) := by
  unfold methA
  simp only [g, g', isz_ok hl]; rfl
theorem o_addl {h : AHp} {a b : Nat} {xs ys : List AV} {Q : QV} {X : QX} (g : h.get a = some (.lst xs)) (g' : h.get b = some (.lst ys)) (hl : xs.length + ys.length ≤ 16777216) : okR (binA .add h (.ref a) (.ref b)) Q X = Q (.ref h.n) (h.add (.lst (xs ++ ys))) := by
  show okR (match h.get a, h.get b with
    | some (.lst xs), some (.lst ys) => if isz (xs.length + ys.length) then .ok (.ref h.n) (h.add (.lst (xs ++ ys))) else .no
    | some (.tup xs), some (.tup ys) => if isz (xs.length + ys.length) then
        if xs.isEmpty then .ok (.ref b) h else if ys.isEmpty then .ok (.ref a) h else .ok (.ref h.n) (h.add (.tup (xs ++ ys)))
      else .no
    | _, _ => .no) Q X = _
  simp only [g, g', isz_ok hl]; rfl
theorem intsOf_map : ∀ S : List Int, intsOf (S.map .int) = some S
  | [] => rfl
  | x :: r => by simp [intsOf, intsOf_map r]
theorem o_sum {h : AHp} {a : Nat} {S : List Int} {Q : QV} {X : QX} (g : h.get a = some (.lst (S.map .int))) : okR (bltA .sum h [.ref a]) Q X = Q (.int S.sum) h := by
  unfold bltA
  simp only [g, intsOf_map]; rfl
theorem o_slice {h : AHp} {a k : Nat} {xs : List AV} {Q : QV} {X : QX} (g : h.get a = some (.lst xs)) : okR (slA h (.ref a) none (some (k : Int))) Q X = Q (.ref h.n) (h.add (.lst (xs.take k))) := by
  unfold slA
  simp only [g, okR_ok, cutA]
  rw [HT.sIx_none, HT.sIx_nat]
  simp only [List.drop_zero, Nat.sub_zero]
  congr 3
  by_cases hk : k ≤ xs.length
  · rw [Nat.min_eq_left hk]
  · rw [Nat.min_eq_right (by omega), List.take_of_length_le (Nat.le_refl _), List.take_of_length_le (by omega)]
theorem o_append {h : AHp} {a : Nat} {xs : List AV} {v : AV} {Q : QV} {X : QX} (g : h.get a = some (.lst xs)) (hl : xs.length < 16777216) : okR (methA .append h (.ref a) [v]) Q X = Q .non (h.set a (.lst (xs ++ [v]))) := by
  unfold methA
  simp only [g]
  rw [if_pos (show Nat.blt xs.length 16777216 = true from Nat.ble_eq_true_of_le (by omega))]; rfl
end AH

set_option Elab.async false
set_option linter.all false
set_option maxRecDepth 100000
set_option maxHeartbeats 400000
/-! VW1: what a text asks, told of data alone. -/
namespace AH
open PySem L2
mutual
/-- no list, no dict within -/
def nols : PyData → Bool
  | .list _ => false
  | .tuple xs => nolsL xs
  | _ => true
def nolsL : List PyData → Bool
  | [] => true
  | x :: r => nols x && nolsL r
end
/-- how much a value is one's own: 0 nothing, 1 its first list, 2 all -/
def lv0 (d : PyData) : Nat := if nols d then 2 else 0
def lvK (ds : List PyData) : Nat := if nolsL ds then 2 else 1
/-- data that may be compared -/
def gd : Nat → PyData → Bool
  | _, .none => true
  | _, .bool _ => true
  | _, .int _ => true
  | _, .str _ => true
  | _, .dict _ => false
  | 0, _ => false
  | n + 1, .list xs => xs.all (gd n)
  | n + 1, .tuple xs => xs.all (gd n)
def eqW (x y : PyData) : Option Bool := if gd 40 x && gd 40 y then some (eqd x y) else none
def truthD : PyData → Option Bool
  | .none => some false
  | .bool b => some b
  | .int i => some (i != 0)
  | .str x => if isz x.length then some (!x.cps.toList.isEmpty) else none
  | .list xs => some (!xs.isEmpty)
  | .tuple xs => some (!xs.isEmpty)
  | .dict xs => some (!xs.isEmpty)
def flatD : PyData → Bool
  | .list _ => false
  | .tuple _ => false
  | .dict _ => false
  | _ => true
def memD (x : PyData) : PyData → Option Bool
  | .str y => match x with
    | .str x => match x.cps.toList with
      | [c] => some (y.cps.toList.contains c)
      | _ => none
    | _ => none
  | .list xs => if gd 40 (.list xs) && gd 40 x then some (xs.any fun z => eqd z x) else none
  | .tuple xs => if flatD x && xs.all flatD then some (xs.any fun z => eqd z x) else none
  | _ => none
def cmpD (o : COp) (x y : PyData) : Option Bool := match o with
  | .eq => eqW x y
  | .ne => (eqW x y).map (!·)
  | .lt => match x, y with | .int i, .int j => some (decide (i < j)) | .str x, .str y => some (ltStr x y) | _, _ => none
  | .le => match x, y with | .int i, .int j => some (decide (i ≤ j)) | _, _ => none
  | .gt => match x, y with | .int i, .int j => some (decide (j < i)) | _, _ => none
  | .ge => match x, y with | .int i, .int j => some (decide (j ≤ i)) | _, _ => none
  | .isin => memD x y
  | .notin => (memD x y).map (!·)
  | .is => match y with | .none => some (match x with | .none => true | _ => false) | _ => none
  | .isnot => match y with | .none => some (match x with | .none => false | _ => true) | _ => none
def opD (o : BOp) (x y : PyData) : Option (PyData × Nat) := match o, x, y with
  | .add, .int i, .int j => some (.int (i + j), 2)
  | .sub, .int i, .int j => some (.int (i - j), 2)
  | .mul, .int i, .int j => if small64 i || small64 j then some (.int (i * j), 2) else none
  | .mul, .list xs, .int k => if isz (xs.length * k.toNat) && decide (k < 1073741824) && decide (-1073741824 < k) && decide (xs.length * k.toNat < 16777216) then some (.list (List.replicate k.toNat xs).flatten, lvK xs) else none
  | .fdiv, .int i, .int j => if decide (0 < j) && decide (j < 1073741824) then some (.int (i / j), 2) else none
  | .mod, .int i, .int j => if decide (0 < j) then some (.int (i % j), 2) else none
  | .pow, .int i, .int j => if decide (0 ≤ j) && decide (j ≤ 1000000) && decide (i.natAbs < 18446744073709551616) then some (.int (i ^ j.toNat), 2) else none
  | .xor, .int i, .int j => some (.int (Builtin.bitXor i j), 2)
  | .add, .str x, .str y => if Nat.blt (x.length + y.length) 16777216 then some (.str (x ++ y), 2) else none
  | .add, .list xs, .list ys => if Nat.blt (xs.length + ys.length) 16777216 then some (.list (xs ++ ys), lvK (xs ++ ys)) else none
  | .add, .tuple xs, .tuple ys => if Nat.blt (xs.length + ys.length) 16777216 then some (.tuple (xs ++ ys), lv0 (.tuple (xs ++ ys))) else none
  | _, _, _ => none
def kdD : PyData → Kd
  | .none => .non | .bool _ => .bl | .int _ => .int | .str _ => .str | .list _ => .lst | .tuple _ => .tup | .dict _ => .dct
def tyD (d : PyData) (ts : List Ty) : Bool := ts.any (kTab (kdD d))
def ixD (x y : PyData) : Option PyData := match x, y with
  | .str x, .int i => if isz x.length then (atI x.cps.toList i).map (fun c => .str ⟨#[c]⟩) else none
  | .list xs, .int i => atI xs i
  | .tuple xs, .int i => atI xs i
  | _, _ => none
def optD : E → PyData → Option (Option Int)
  | .non, .none => some none
  | .non, _ => none
  | _, .int i => some (some i)
  | _, _ => none
def slD (x : PyData) (lo hi : Option Int) : Option (PyData × Nat) := match x with
  | .str x => if isz x.length then some (.str ⟨(cutA x.cps.toList lo hi).toArray⟩, 2) else none
  | .list xs => some (.list (cutA xs lo hi), lvK (cutA xs lo hi))
  | .tuple xs => some (.tuple (cutA xs lo hi), lv0 (.tuple (cutA xs lo hi)))
  | _ => none
def intsD : List PyData → Option (List Int)
  | [] => some []
  | .int i :: r => (intsD r).map (i :: ·)
  | _ :: _ => none
def blsD : List PyData → Option (List Bool)
  | [] => some []
  | .bool i :: r => (blsD r).map (i :: ·)
  | _ :: _ => none
def bltD (b : Bi) (ds : List PyData) : Option PyData := match b, ds with
  | .len, [.str x] => if isz x.length then some (.int x.length) else none
  | .len, [.list xs] => some (.int xs.length)
  | .len, [.tuple xs] => some (.int xs.length)
  | .len, [.dict xs] => some (.int xs.length)
  | .int, [.int i] => some (.int i)
  | .int, [.bool b] => some (.int (if b then 1 else 0))
  | .max2, [.int i, .int j] => some (.int (if j > i then j else i))
  | .min2, [.int i, .int j] => some (.int (if j < i then j else i))
  | .sum, [.list xs] => (intsD xs).map fun ns => .int ns.sum
  | .all, [.list xs] => (blsD xs).map fun bs => .bool (bs.all id)
  | .any, [.list xs] => (blsD xs).map fun bs => .bool (bs.any id)
  | _, _ => none
/-- a slot -/
inductive VS where
  | no | v (d : PyData) (u : Nat) | strm
abbrev VSl := List VS
def bindG1V : G → PyData → VSl → Option VSl
  | .nm i, d, σ => some (σ.set i (.v d 0))
  | .tp gs, .tuple xs, σ => bindGsV gs xs σ
  | .tp gs, .list xs, σ => bindGsV gs xs σ
  | .tp _, _, _ => none
where bindGsV : Gs → List PyData → VSl → Option VSl
  | .nil, [], σ => some σ
  | .cons g r, v :: vs, σ => match bindG1V g v σ with
    | some σ1 => bindGsV r vs σ1
    | none => none
  | _, _, _ => none
def bindV : G → List PyData → VSl → Option VSl
  | g, [v], σ => bindG1V g v σ
  | .tp gs, [v, w], σ => bindG1V.bindGsV gs [v, w] σ
  | _, _, _ => none
def wipeV (σ : VSl) : List Nat → VSl
  | [] => σ
  | v :: vs => (wipeV σ vs).set v .no
/-- the scalars of the slots -/
def scalV : VSl → Sl
  | [] => []
  | .v d _ :: r => (match d with | .none => some .non | .bool b => some (.bl b) | .int i => some (.int i) | .str x => some (.str x) | _ => none) :: scalV r
  | _ :: r => none :: scalV r
/-- what is passed to a def -/
inductive VA where
  | d (x : PyData) | strm
abbrev WQ := PyData → Nat → Nat → Prop
abbrev WX := Nat → List (Nat × PyData) → Nat → Prop
structure VC where
  C : Cf
  call : Nat → List VA → Nat → WQ → WX → Prop
def noWX : WX := fun _ _ _ => False
def rngD (lo : Int) : Nat → List PyData
  | 0 => []
  | n + 1 => .int lo :: rngD (lo + 1) n
/-- a walk that gathers -/
def wComp (turn : List PyData → Nat → (Option (PyData × Nat) → Nat → Prop) → Prop) : List (List PyData) → List PyData → Nat → Nat → (List PyData → Nat → Nat → Prop) → Prop
  | [], acc, m, B, Q => Q acc m B
  | x :: r, acc, m, B, Q => turn x B fun o B1 => match o with
    | some (y, u) => acc.length < 16777216 ∧ wComp turn r (acc ++ [y]) (min m u) B1 Q
    | none => wComp turn r acc m B1 Q
def lvL (m : Nat) : Nat := if m = 2 then 2 else 1
def lvT (m : Nat) : Nat := if m = 2 then 2 else 0
def seqD : PyData → Option (List PyData)
  | .list xs => some xs
  | .tuple xs => some xs
  | .str x => some (x.cps.toList.map fun c => .str ⟨#[c]⟩)
  | _ => none
def sqD : PyData → Option (List PyData)
  | .list xs => some xs
  | .tuple xs => some xs
  | _ => none
def enumD (s : Int) : List PyData → List (List PyData)
  | [] => []
  | x :: r => [.int s, x] :: enumD (s + 1) r
def zipD : PyData → PyData → Option (List (List PyData))
  | .list xs, .list ys => some ((xs.zip ys).map fun p => [p.1, p.2])
  | .tuple xs, .tuple ys => some ((xs.zip ys).map fun p => [p.1, p.2])
  | _, _ => none
/-- what a clause hands back -/
def handD (told : Str) (hs : List (Nat × Str × HK)) (c : Nat) (fl : List Nat) (fs : List (Nat × PyData)) : Option PyData :=
  if fs.all (fun p => fl.contains p.1) then match hs.find? (fun q => q.1 == c) with
    | some (_, w, .fld f) => (fldV f fs).map fun v => .tuple [.str w, v]
    | some (_, w, .two f g) => match fldV f fs, fldV g fs with
      | some u, some v => some (.tuple [.str w, .tuple [u, v]])
      | _, _ => none
    | some (_, w, .none) => some (.tuple [.str w, .none])
    | none => none
  else none
where fldV (f : Nat) : List (Nat × PyData) → Option PyData
  | [] => none
  | p :: r => if p.1 = f then some p.2 else fldV f r
def optQ {α : Type} (o : Option α) (Q : α → Prop) : Prop := match o with
  | some x => Q x
  | none => False
@[simp] theorem optQ_some {α : Type} {x : α} {Q : α → Prop} : optQ (some x) Q = Q x := rfl
@[simp] theorem optQ_none {α : Type} {Q : α → Prop} : optQ none Q = False := rfl
def lsub (u : Nat) (d : PyData) : Nat := if u = 2 then 2 else lv0 d
def strOkD (x : Str) : Bool := x.cps.toList.all (fun c => Nat.blt c 1114112) && isz x.length
def strmAt : E → VSl → Bool
  | .var i, σ => match σ[i]? with | some .strm => true | _ => false
  | _, _ => false
def permVA (as : List VA) : List Nat → Option (List VA)
  | [] => some []
  | i :: r => match as[i]?, permVA as r with
    | some v, some ws => some (v :: ws)
    | _, _ => none
mutual
def wE (V : VC) : E → VSl → Nat → WQ → WX → Prop
  | .var i, σ, B, Q, _ => match σ[i]? with
    | some (.v d _) => Q d (lv0 d) B
    | _ => False
  | .int i, _, B, Q, _ => Q (.int i) 2 B
  | .bl b, _, B, Q, _ => Q (.bool b) 2 B
  | .non, _, B, Q, _ => Q .none 2 B
  | .str x, _, B, Q, _ => strOkD x = true ∧ Q (.str x) 2 B
  | .bin o a b, σ, B, Q, X => wE V a σ B (fun x _ B1 => wE V b σ B1 (fun y _ B2 => optQ (opD o x y) fun z => Q z.1 z.2 B2) X) X
  | .neg a, σ, B, Q, X => wE V a σ B (fun x _ B1 => match x with | .int i => Q (.int (-i)) 2 B1 | _ => False) X
  | .not a, σ, B, Q, X => wE V a σ B (fun x _ B1 => optQ (truthD x) fun b => Q (.bool (!b)) 2 B1) X
  | .and a b, σ, B, Q, X => wE V a σ B (fun x u B1 => optQ (truthD x) fun t => if t = true then wE V b σ B1 Q X else Q x u B1) X
  | .or a b, σ, B, Q, X => wE V a σ B (fun x u B1 => optQ (truthD x) fun t => if t = true then Q x u B1 else wE V b σ B1 Q X) X
  | .cmp o a b, σ, B, Q, X => wE V a σ B (fun x _ B1 => wE V b σ B1 (fun y _ B2 => optQ (cmpD o x y) fun t => Q (.bool t) 2 B2) X) X
  | .cmp2 o o2 a b c, σ, B, Q, X => wE V a σ B (fun x _ B1 => wE V b σ B1 (fun y _ B2 => optQ (cmpD o x y) fun t => if t = true then wE V c σ B2 (fun z _ B3 => optQ (cmpD o2 y z) fun t => Q (.bool t) 2 B3) X else Q (.bool false) 2 B2) X) X
  | .ite c a b, σ, B, Q, X => wE V c σ B (fun x _ B1 => optQ (truthD x) fun t => if t = true then wE V a σ B1 Q X else wE V b σ B1 Q X) X
  | .lst es, σ, B, Q, X => wL V es σ B (fun ds m B1 => ds.length < 16777216 ∧ Q (.list ds) (lvL m) B1) X
  | .tup es, σ, B, Q, X => wL V es σ B (fun ds m B1 => ds.length < 16777216 ∧ Q (.tuple ds) (lvT m) B1) X
  | .lc e g it own, σ, B, Q, X => wI V it σ B (fun its B1 => wComp (fun vs B2 K => optQ (bindV g vs (wipeV σ own)) fun σ1 => wE V e σ1 B2 (fun y u B3 => K (some (y, u)) B3) noWX) its [] 2 B1 fun ds m B4 => ds.length < 16777216 ∧ Q (.list ds) (lvL m) B4) X
  | .lcf e g it c own, σ, B, Q, X => wI V it σ B (fun its B1 => wComp (fun vs B2 K => optQ (bindV g vs (wipeV σ own)) fun σ1 => wE V c σ1 B2 (fun x _ B3 => optQ (truthD x) fun t => if t = true then wE V e σ1 B3 (fun y u B4 => K (some (y, u)) B4) noWX else K none B3) noWX) its [] 2 B1 fun ds m B4 => ds.length < 16777216 ∧ Q (.list ds) (lvL m) B4) X
  | .sub a i, σ, B, Q, X => wE V a σ B (fun x u B1 => wE V i σ B1 (fun y _ B2 => optQ (ixD x y) fun z => Q z (lsub u z) B2) X) X
  | .sl a lo hi, σ, B, Q, X => wE V a σ B (fun x _ B1 => wE V lo σ B1 (fun y _ B2 => optQ (optD lo y) fun l => wE V hi σ B2 (fun z _ B3 => optQ (optD hi z) fun k => optQ (slD x l k) fun r => Q r.1 r.2 B3) X) X) X
  | .call f es, σ, B, Q, X => wA V es σ B (fun as B1 => V.call f as B1 Q X) X
  | .callk f es perm, σ, B, Q, X => wA V es σ B (fun as B1 => optQ (permVA as perm) fun as => V.call f as B1 Q X) X
  | .blt b es, σ, B, Q, X => wL V es σ B (fun ds _ B1 => optQ (bltD b ds) fun z => Q z 2 B1) X
  | .isa e _ ts, σ, B, Q, X => wE V e σ B (fun x _ B1 => Q (.bool (tyD x ts)) 2 B1) X
  | .lstE e, σ, B, Q, X => wE V e σ B (fun x _ B1 => optQ (sqD x) fun xs => Q (.list xs) (lvK xs) B1) X
  | .lstR1 a, σ, B, Q, X => wE V a σ B (fun x _ B1 => match x with | .int j => (rngOk j = true ∧ j.toNat < 16777216) ∧ Q (.list (rngD 0 j.toNat)) 2 B1 | _ => False) X
  | .lstR2 a b, σ, B, Q, X => wE V a σ B (fun x _ B1 => wE V b σ B1 (fun y _ B2 => match x, y with | .int i, .int j => (rngOk i = true ∧ rngOk j = true ∧ (j - i).toNat < 16777216) ∧ Q (.list (rngD i (j - i).toNat)) 2 B2 | _, _ => False) X) X
  | .tupE e, σ, B, Q, X => wE V e σ B (fun x _ B1 => optQ (sqD x) fun xs => Q (.tuple xs) (lv0 (.tuple xs)) B1) X
  | .dct .nil, _, B, Q, _ => Q (.dict []) 2 B
  | .met f e, σ, B, Q, X => match V.C.P.met f with
    | some (told, hs) => strOkD told = true ∧ hs.all (fun p => strOkD p.2.1) = true ∧ wE V e σ B (fun x u B1 => Q (.tuple [.str told, x]) (lvT u) B1) (fun c fs B1 => optQ (V.C.P.cls c) fun fl => optQ (handD told hs c fl fs) fun z => Q z (lv0 z) B1)
    | none => False
  | .iso e, σ, B, Q, _ => ∃ v h, evE V.C e (scalV σ) AHp.emp = .ok v h ∧ avOk v = true ∧ Q (avD v) 2 B
  | _, _, _, _, _ => False
def wL (V : VC) : L → VSl → Nat → (List PyData → Nat → Nat → Prop) → WX → Prop
  | .nil, _, B, Q, _ => Q [] 2 B
  | .cons e r, σ, B, Q, X => wE V e σ B (fun x u B1 => wL V r σ B1 (fun ds m B2 => Q (x :: ds) (min u m) B2) X) X
  | .star e r, σ, B, Q, X => wE V e σ B (fun x _ B1 => optQ (sqD x) fun xs => wL V r σ B1 (fun ds m B2 => Q (xs ++ ds) (min (lvK xs) m) B2) X) X
def wA (V : VC) : L → VSl → Nat → (List VA → Nat → Prop) → WX → Prop
  | .nil, _, B, Q, _ => Q [] B
  | .cons e r, σ, B, Q, X => match strmAt e σ with
    | true => wA V r σ B (fun as B2 => Q (.strm :: as) B2) X
    | false => wE V e σ B (fun x _ B1 => wA V r σ B1 (fun as B2 => Q (.d x :: as) B2) X) X
  | .star _ _, _, _, _, _ => False
def wI (V : VC) : I → VSl → Nat → (List (List PyData) → Nat → Prop) → WX → Prop
  | .seq e, σ, B, Q, X => wE V e σ B (fun x _ B1 => optQ (seqD x) fun xs => Q (xs.map fun x => [x]) B1) X
  | .rng1 a, σ, B, Q, X => wE V a σ B (fun x _ B1 => match x with | .int j => rngOk j = true ∧ Q ((rngD 0 j.toNat).map fun x => [x]) B1 | _ => False) X
  | .rng2 a b, σ, B, Q, X => wE V a σ B (fun x _ B1 => wE V b σ B1 (fun y _ B2 => match x, y with | .int i, .int j => (rngOk i = true ∧ rngOk j = true) ∧ Q ((rngD i (j - i).toNat).map fun x => [x]) B2 | _, _ => False) X) X
  | .enum e, σ, B, Q, X => wE V e σ B (fun x _ B1 => optQ (sqD x) fun xs => Q (enumD 0 xs) B1) X
  | .enumS e s, σ, B, Q, X => wE V e σ B (fun x _ B1 => wE V s σ B1 (fun y _ B2 => match y with | .int i => rngOk i = true ∧ optQ (sqD x) fun xs => Q (enumD i xs) B2 | _ => False) X) X
  | .zip a b, σ, B, Q, X => wE V a σ B (fun x _ B1 => wE V b σ B1 (fun y _ B2 => optQ (zipD x y) fun ps => Q ps B2) X) X
  | _, _, _, _, _ => False
end
end AH

set_option Elab.async false
set_option linter.all false
set_option maxRecDepth 100000
set_option maxHeartbeats 400000
/-! VW2: operations on trees. -/
namespace AH
open PySem L2
def Lv (t : OT) (u : Nat) (n : Nat) : Prop := (1 ≤ u → ∀ a xs, t = .lst a xs → n ≤ a ∧ a ∉ lsL xs) ∧ (2 ≤ u → t.ls.Nodup ∧ ∀ a ∈ t.ls, n ≤ a)
/-- a result that is a tree -/
def OPs (S : Nat → Prop) (h : AHp) (z : PyData) (l : Nat) : QV := fun v h' => ∃ r : OT, v = r.v ∧ r.Ok h' 3 ∧ r.d = z ∧ Lv r l h.n ∧ (∀ a ∈ r.ls, h.n ≤ a ∨ S a) ∧ Keep noA h h'
mutual
theorem nols_ls {h : AHp} {lo : Nat} : ∀ {t : OT}, t.Ok h lo → nols t.d = true → t.ls = []
  | .sc v, _, _ => by simp [OT.ls]
  | .lst a xs, _, e => by simp [OT.d, nols] at e
  | .tup a xs, q, e => by
    simp only [OT.Ok] at q
    simp only [OT.d, nols] at e
    simp only [OT.ls]
    exact nolsL_ls q.2.2.2.2 e
  | .edct a, _, _ => by simp [OT.ls]
theorem nolsL_ls {h : AHp} {lo : Nat} : ∀ {ts : List OT}, OksL h lo ts → nolsL (dsL ts) = true → lsL ts = []
  | [], _, _ => by simp [lsL]
  | t :: r, q, e => by
    simp only [OksL] at q
    simp only [dsL, nolsL, Bool.and_eq_true] at e
    simp only [lsL, nols_ls q.1 e.1, nolsL_ls q.2 e.2, List.append_nil]
end
theorem Lv.zero {t : OT} {n : Nat} : Lv t 0 n := ⟨fun h => by omega, fun h => by omega⟩
theorem Lv.nil {t : OT} {u n : Nat} (h : t.ls = []) : Lv t u n := ⟨fun _ a xs e => by subst e; simp [OT.ls] at h, fun _ => by simp [h]⟩
theorem Lv.sc {v : AV} {u n : Nat} : Lv (.sc v) u n := .nil (by simp [OT.ls])
theorem Lv.mono {t : OT} {u n m : Nat} (e : m ≤ n) (q : Lv t u n) : Lv t u m := ⟨fun h a xs z => ⟨Nat.le_trans e (q.1 h a xs z).1, (q.1 h a xs z).2⟩, fun h => ⟨(q.2 h).1, fun a ha => Nat.le_trans e ((q.2 h).2 a ha)⟩⟩
theorem Lv.lv0 {t : OT} {h : AHp} {lo n : Nat} (ok : t.Ok h lo) : Lv t (lv0 t.d) n := by
  unfold AH.lv0
  split
  · next e => exact .nil (nols_ls ok e)
  · exact .zero
theorem OPs.sc {S : Nat → Prop} {h : AHp} {v : AV} (hv : avOk v = true) {l : Nat} {z : PyData} (e : avD v = z) : OPs S h z l v h := ⟨.sc v, rfl, by simpa [OT.Ok] using hv, by simpa [OT.d] using e, .sc, by simp [OT.ls], .refl⟩
/-- a new list of trees -/
theorem OPs.lst {S : Nat → Prop} {h : AHp} {ts : List OT} {l : Nat} (hn : 3 ≤ h.n) (ok : OksL h 3 ts) (hl : ts.length < 16777216) (hS : ∀ a ∈ lsL ts, S a) (hsm : ∀ a ∈ lsL ts, a < h.n) (hlv : 2 ≤ l → lsL ts = []) : OPs S h (.list (ts.map OT.d)) l (.ref h.n) (h.add (.lst (ts.map OT.v))) := by
  refine ⟨.lst h.n ts, rfl, mk_lst ok hn hl, by simp [OT.d, dsL_map], ⟨fun _ a xs e => ?_, fun h2 => ?_⟩, fun a ha => ?_, .add⟩
  · cases e
    exact ⟨Nat.le_refl _, fun z => by have := hsm _ z; omega⟩
  · simp [OT.ls, hlv h2]
  · simp only [OT.ls, List.mem_cons] at ha
    rcases ha with e | e
    · exact .inl (by omega)
    · exact .inr (hS a e)
theorem OPs.tup {S : Nat → Prop} {h : AHp} {ts : List OT} {l : Nat} (hn : 3 ≤ h.n) (ok : OksL h 3 ts) (hl : ts.length < 16777216) (hS : ∀ a ∈ lsL ts, S a) (hlv : 2 ≤ l → lsL ts = []) : OPs S h (.tuple (ts.map OT.d)) l (.ref h.n) (h.add (.tup (ts.map OT.v))) := by
  refine ⟨.tup h.n ts, rfl, mk_tup ok hn hl, by simp [OT.d, dsL_map], ⟨fun _ a xs e => (by cases e), fun h2 => ?_⟩, fun a ha => ?_, .add⟩
  · simp [OT.ls, hlv h2]
  · simp only [OT.ls] at ha
    exact .inr (hS a ha)
theorem OPs.self {S : Nat → Prop} {h : AHp} {t : OT} {l : Nat} (ok : t.Ok h 3) (hS : ∀ a ∈ t.ls, S a) (hlv : Lv t l h.n) : OPs S h t.d l t.v h := ⟨t, rfl, ok, rfl, hlv, fun a ha => .inr (hS a ha), .refl⟩
theorem lvK_nil {h : AHp} {lo : Nat} {ts : List OT} (ok : OksL h lo ts) (e : 2 ≤ lvK (ts.map OT.d)) : lsL ts = [] := by
  unfold lvK at e
  split at e
  · next z => exact nolsL_ls ok (by rw [dsL_map]; exact z)
  · omega
theorem sc_inv {h : AHp} {lo : Nat} {t : OT} (ok : t.Ok h lo) : (∀ i, t.d = .int i → t = .sc (.int i)) ∧ (∀ b, t.d = .bool b → t = .sc (.bl b)) ∧ (∀ x, t.d = .str x → t = .sc (.str x)) ∧ (t.d = .none → t = .sc .non) := by
  cases t with
  | sc v => cases v <;> simp [OT.d, avD] <;> simp [OT.Ok, avOk] at ok
  | lst a xs => simp [OT.d]
  | tup a xs => simp [OT.d]
  | edct a => simp [OT.d]
theorem lst_inv {t : OT} {ds : List PyData} (e : t.d = .list ds) : ∃ a xs, t = .lst a xs ∧ ds = xs.map OT.d := by
  cases t with
  | sc v => cases v <;> simp [OT.d, avD] at e
  | lst a xs => simp [OT.d, dsL_map] at e; exact ⟨a, xs, rfl, e.symm⟩
  | tup a xs => simp [OT.d] at e
  | edct a => simp [OT.d] at e
theorem tup_inv {t : OT} {ds : List PyData} (e : t.d = .tuple ds) : ∃ a xs, t = .tup a xs ∧ ds = xs.map OT.d := by
  cases t with
  | sc v => cases v <;> simp [OT.d, avD] at e
  | lst a xs => simp [OT.d] at e
  | tup a xs => simp [OT.d, dsL_map] at e; exact ⟨a, xs, rfl, e.symm⟩
  | edct a => simp [OT.d] at e
/-! ### reading -/
theorem gd_list {n : Nat} {xs : List PyData} (e : gd n (.list xs) = true) : ∃ m, n = m + 1 ∧ ∀ x ∈ xs, gd m x = true := by
  cases n with
  | zero => simp [gd] at e
  | succ m => simp only [gd, List.all_eq_true] at e; exact ⟨m, rfl, e⟩
theorem gd_tuple {n : Nat} {xs : List PyData} (e : gd n (.tuple xs) = true) : ∃ m, n = m + 1 ∧ ∀ x ∈ xs, gd m x = true := by
  cases n with
  | zero => simp [gd] at e
  | succ m => simp only [gd, List.all_eq_true] at e; exact ⟨m, rfl, e⟩
theorem rdAll_ot {h : AHp} {n : Nat} : ∀ {ts : List OT}, (∀ t ∈ ts, rd h n t.v = some t.d) → rdAll (rd h n) (ts.map OT.v) = some (ts.map OT.d)
  | [], _ => rfl
  | t :: r, q => by
    simp only [List.map_cons, rdAll, q t (by simp), rdAll_ot (ts := r) fun x hx => q x (by simp [hx])]
theorem rd_ot {h : AHp} {lo : Nat} : ∀ (n : Nat) (t : OT), t.Ok h lo → gd n t.d = true → rd h n t.v = some t.d := by
  intro n
  induction n with
  | zero =>
    intro t ok e
    cases t with
    | sc v =>
      cases v <;> simp only [OT.Ok, avOk, Bool.and_eq_true] at ok <;> simp only [OT.v, OT.d, avD, rd] <;> first | rfl | (rw [if_pos ok.1]) | (simp at ok)
    | lst a xs => simp [OT.d, gd] at e
    | tup a xs => simp [OT.d, gd] at e
    | edct a => simp [OT.d, gd] at e
  | succ n ih =>
    intro t ok e
    cases t with
    | sc v =>
      cases v <;> simp only [OT.Ok, avOk, Bool.and_eq_true] at ok <;> simp only [OT.v, OT.d, avD, rd] <;> first | rfl | (rw [if_pos ok.1]) | (simp at ok)
    | lst a xs =>
      simp only [OT.Ok] at ok
      simp only [OT.d, gd, dsL_map, List.all_eq_true] at e
      simp only [OT.v, rd, ok.2.2.1, OT.d, dsL_map]
      rw [rdAll_ot fun t ht => ih t (OksL_iff.1 ok.2.2.2.2 t ht) (e _ (List.mem_map_of_mem ht))]; rfl
    | tup a xs =>
      simp only [OT.Ok] at ok
      simp only [OT.d, gd, dsL_map, List.all_eq_true] at e
      simp only [OT.v, rd, ok.2.2.1, OT.d, dsL_map]
      rw [rdAll_ot fun t ht => ih t (OksL_iff.1 ok.2.2.2.2 t ht) (e _ (List.mem_map_of_mem ht))]; rfl
    | edct a => simp [OT.d, gd] at e
theorem eqv_ot {h : AHp} {lo lo' : Nat} {t u : OT} {b : Bool} (ok : t.Ok h lo) (ok' : u.Ok h lo') (e : eqW t.d u.d = some b) : eqv h t.v u.v = some b := by
  unfold eqW at e
  split at e
  · next z =>
    rw [Bool.and_eq_true] at z
    unfold eqv
    rw [rd_ot 40 t ok z.1, rd_ot 40 u ok' z.2]
    exact e
  · exact absurd e (by simp)
theorem truth_ot {h : AHp} {lo : Nat} {t : OT} {b : Bool} (ok : t.Ok h lo) (e : truthD t.d = some b) : truth h t.v = some b := by
  cases t with
  | sc v => cases v <;> simp only [OT.Ok, avOk] at ok <;> simp only [OT.d, avD, truthD] at e <;> first | exact e | (simp at ok)
  | lst a xs => simp only [OT.Ok] at ok; simp only [OT.d, truthD, dsL_map] at e; simp only [OT.v, truth, ok.2.2.1]; cases xs <;> simpa using e
  | tup a xs => simp only [OT.Ok] at ok; simp only [OT.d, truthD, dsL_map] at e; simp only [OT.v, truth, ok.2.2.1]; cases xs <;> simpa using e
  | edct a => simp only [OT.Ok] at ok; simp only [OT.d, truthD] at e; simp only [OT.v, truth, ok.2.2]; exact e
theorem flat_ot {t : OT} : flatA t.v = flatD t.d ∨ ∃ v, t = .sc (.ref v) := by
  cases t with
  | sc v => cases v <;> first | (left; rfl) | (right; exact ⟨_, rfl⟩)
  | lst => left; rfl
  | tup => left; rfl
  | edct => left; rfl
theorem flat_ok' {h : AHp} {lo : Nat} {t : OT} (ok : t.Ok h lo) : flatA t.v = flatD t.d := by
  rcases flat_ot (t := t) with e | ⟨v, e⟩
  · exact e
  · subst e; simp [OT.Ok, avOk] at ok
theorem gd_flat {n : Nat} {d : PyData} (e : flatD d = true) : gd n d = true := by
  cases d <;> first | (simp [flatD] at e; done) | (cases n <;> rfl)
theorem memV_ot {h : AHp} {lo lo' : Nat} {t u : OT} {b : Bool} (ok : t.Ok h lo) (ok' : u.Ok h lo') (e : memD t.d u.d = some b) : memV h t.v u.v = some b := by
  cases u with
  | sc w =>
    cases w with
    | str y =>
      simp only [OT.d, avD] at e
      cases t with
      | sc v =>
        cases v <;> simp only [OT.d, avD, memD] at e <;> first | exact e | (simp at e)
      | lst a xs => simp [OT.d, memD] at e
      | tup a xs => simp [OT.d, memD] at e
      | edct a => simp [OT.d, memD] at e
    | _ => simp [OT.d, avD, memD] at e
  | lst a xs =>
    simp only [OT.d, memD] at e
    split at e
    · next z =>
      rw [Bool.and_eq_true] at z
      have r1 := rd_ot 40 (.lst a xs) ok' (by simpa [OT.d] using z.1)
      have r2 := rd_ot 40 t ok z.2
      simp only [OT.v] at r1
      simp only [OT.Ok] at ok'
      show memV h t.v (.ref a) = some b
      unfold memV
      simp only [ok'.2.2.1, r1, r2, OT.d]
      exact e
    · exact absurd e (by simp)
  | tup a xs =>
    simp only [OT.d, memD] at e
    split at e
    · next z =>
      rw [Bool.and_eq_true, List.all_eq_true] at z
      have hx : ∀ x ∈ xs, flatD x.d = true := fun x hx => z.2 _ (by rw [dsL_map]; exact List.mem_map_of_mem hx)
      have okk := ok'
      simp only [OT.Ok] at okk
      have r1 := rd_ot 40 (.tup a xs) ok' (by
        simp only [OT.d, gd, dsL_map, List.all_eq_true]
        intro x hx'
        obtain ⟨y, hy, e⟩ := List.mem_map.1 hx'
        subst e
        exact gd_flat (hx y hy))
      have r2 := rd_ot 40 t ok (gd_flat z.1)
      simp only [OT.v] at r1
      have f : (flatA t.v && (xs.map OT.v).all flatA) = true := by
        rw [Bool.and_eq_true, List.all_eq_true]
        refine ⟨by rw [flat_ok' ok]; exact z.1, fun v hv => ?_⟩
        obtain ⟨y, hy, e⟩ := List.mem_map.1 hv
        subst e
        rw [flat_ok' (OksL_iff.1 okk.2.2.2.2 y hy)]
        exact hx y hy
      show memV h t.v (.ref a) = some b
      unfold memV
      simp only [okk.2.2.1, r1, r2, OT.d]
      rw [if_pos f]
      exact e
    · exact absurd e (by simp)
  | edct a => simp [OT.d, memD] at e
end AH

set_option Elab.async false
set_option linter.all false
set_option maxRecDepth 100000
set_option maxHeartbeats 400000
/-! VW3: operations on trees, more. -/
namespace AH
open PySem L2
theorem cmp_ot {h : AHp} {lo lo' : Nat} {t u : OT} {o : COp} {b : Bool} (ok : t.Ok h lo) (ok' : u.Ok h lo') (e : cmpD o t.d u.d = some b) : cmpA o h t.v u.v = .ok (.bl b) h := by
  have i1 := sc_inv ok
  have i2 := sc_inv ok'
  cases o with
  | eq => simp only [cmpD] at e; simp only [cmpA, eqv_ot ok ok' e]; rfl
  | ne =>
    simp only [cmpD, Option.map_eq_some_iff] at e
    obtain ⟨c, e1, e2⟩ := e
    simp only [cmpA, eqv_ot ok ok' e1, Option.map_some, e2]; rfl
  | isin => simp only [cmpD] at e; simp only [cmpA, memV_ot ok ok' e]; rfl
  | notin =>
    simp only [cmpD, Option.map_eq_some_iff] at e
    obtain ⟨c, e1, e2⟩ := e
    simp only [cmpA, memV_ot ok ok' e1, Option.map_some, e2]; rfl
  | lt =>
    simp only [cmpD] at e
    split at e
    · next i j a b => rw [i1.1 _ a, i2.1 _ b]; simp only [Option.some.injEq] at e; subst e; rfl
    · next i j a b => rw [i1.2.2.1 _ a, i2.2.2.1 _ b]; simp only [Option.some.injEq] at e; subst e; rfl
    · exact absurd e (by simp)
  | le =>
    simp only [cmpD] at e
    split at e
    · next i j a b => rw [i1.1 _ a, i2.1 _ b]; simp only [Option.some.injEq] at e; subst e; rfl
    · exact absurd e (by simp)
  | gt =>
    simp only [cmpD] at e
    split at e
    · next i j a b => rw [i1.1 _ a, i2.1 _ b]; simp only [Option.some.injEq] at e; subst e; rfl
    · exact absurd e (by simp)
  | ge =>
    simp only [cmpD] at e
    split at e
    · next i j a b => rw [i1.1 _ a, i2.1 _ b]; simp only [Option.some.injEq] at e; subst e; rfl
    · exact absurd e (by simp)
  | is =>
    simp only [cmpD] at e
    split at e
    · next b =>
      rw [i2.2.2.2 b]
      simp only [Option.some.injEq] at e
      subst e
      cases t with
      | sc v => cases v <;> first | rfl | (simp [OT.Ok, avOk] at ok)
      | _ => rfl
    · exact absurd e (by simp)
  | isnot =>
    simp only [cmpD] at e
    split at e
    · next b =>
      rw [i2.2.2.2 b]
      simp only [Option.some.injEq] at e
      subst e
      cases t with
      | sc v => cases v <;> first | rfl | (simp [OT.Ok, avOk] at ok)
      | _ => rfl
    · exact absurd e (by simp)
theorem OksL.flat_rep {h : AHp} {lo : Nat} {ts : List OT} (ok : OksL h lo ts) : ∀ n : Nat, OksL h lo (List.replicate n ts).flatten
  | 0 => by simp [OksL]
  | n + 1 => by simp only [List.replicate_succ, List.flatten_cons]; exact ok.app (ok.flat_rep n)
theorem lsL_rep {ts : List OT} {a : Nat} : ∀ n : Nat, a ∈ lsL (List.replicate n ts).flatten → a ∈ lsL ts
  | 0, h => by simp [lsL] at h
  | n + 1, h => by
    simp only [List.replicate_succ, List.flatten_cons, lsL_app, List.mem_append] at h
    rcases h with e | e
    · exact e
    · exact lsL_rep n e
theorem map_rep {α β : Type} {f : α → β} {xs : List α} (n : Nat) : (List.replicate n xs).flatten.map f = (List.replicate n (xs.map f)).flatten := by
  rw [List.map_flatten, List.map_replicate]
theorem len_rep {α : Type} {xs : List α} : ∀ n : Nat, (List.replicate n xs).flatten.length = xs.length * n
  | 0 => by simp
  | n + 1 => by simp only [List.replicate_succ, List.flatten_cons, List.length_append, len_rep n]; rw [Nat.mul_succ]; omega
theorem blt_isz {n : Nat} (h : Nat.blt n 16777216 = true) : isz n = true ∧ n < 16777216 := by
  have : n < 16777216 := Nat.le_of_ble_eq_true h
  exact ⟨isz_ok (by omega), this⟩
theorem op_ot {h : AHp} {t u : OT} {o : BOp} {z : PyData × Nat} {S : Nat → Prop} {X : QX} (hn : 3 ≤ h.n) (ok : t.Ok h 3) (ok' : u.Ok h 3) (hS : ∀ a ∈ t.ls, S a) (hS' : ∀ a ∈ u.ls, S a) (hb : (∀ a ∈ t.ls, a < h.n) ∧ ∀ a ∈ u.ls, a < h.n) (e : opD o t.d u.d = some z) : okR (binA o h t.v u.v) (OPs S h z.1 z.2) X := by
  have i1 := sc_inv ok
  have i2 := sc_inv ok'
  have l1 := fun ds => lst_inv (t := t) (ds := ds)
  have l2 := fun ds => lst_inv (t := u) (ds := ds)
  have t1 := fun ds => tup_inv (t := t) (ds := ds)
  have t2 := fun ds => tup_inv (t := u) (ds := ds)
  unfold opD at e
  split at e
  · next i j a b => rw [i1.1 _ a, i2.1 _ b]; cases e; exact OPs.sc rfl rfl
  · next i j a b => rw [i1.1 _ a, i2.1 _ b]; cases e; exact OPs.sc rfl rfl
  · next i j a b =>
    rw [i1.1 _ a, i2.1 _ b]
    split at e
    · next c => cases e; rw [Bool.or_eq_true] at c; simp only [OT.v]; rw [o_mul c]; exact OPs.sc rfl rfl
    · cases e
  · next xs k a b =>
    obtain ⟨p, ts, e1, e2⟩ := l1 _ a
    subst e1
    subst e2
    rw [i2.1 _ b]
    split at e
    · next c =>
      cases e
      simp only [Bool.and_eq_true, decide_eq_true_eq, List.length_map] at c
      obtain ⟨⟨⟨c1, c2⟩, c3⟩, c4⟩ := c
      have ok1 := ok
      simp only [OT.Ok] at ok1
      have : binA .mul h (OT.lst p ts).v (OT.sc (.int k)).v = Rs.ok (AV.ref h.n) (h.add (.lst (List.replicate k.toNat (ts.map OT.v)).flatten)) := by
        show (match h.get p with
          | some (.lst xs) => if isz (xs.length * k.toNat) && decide (k < 1073741824) && decide (-1073741824 < k) then Rs.ok (AV.ref h.n) (h.add (.lst (List.replicate k.toNat xs).flatten)) else .no
          | _ => .no) = _
        simp only [ok1.2.2.1, List.length_map, c1, decide_eq_true c2, decide_eq_true c3]
        rfl
      rw [this, okR_ok, ← map_rep, ← map_rep]
      simp only [OT.ls, List.mem_cons] at hS hb
      refine OPs.lst hn (ok1.2.2.2.2.flat_rep _) (by rw [len_rep]; exact c4) (fun a ha => hS a (.inr (lsL_rep _ ha))) (fun a ha => hb.1 a (.inr (lsL_rep _ ha))) fun e => ?_
      have := lvK_nil ok1.2.2.2.2 e
      apply List.eq_nil_iff_forall_not_mem.2
      intro a ha
      have := lsL_rep _ ha
      simp_all
    · cases e
  · next i j a b =>
    rw [i1.1 _ a, i2.1 _ b]
    split at e
    · next c => cases e; rw [Bool.and_eq_true, decide_eq_true_eq, decide_eq_true_eq] at c; simp only [OT.v]; rw [o_fdiv c.1 c.2]; exact OPs.sc rfl rfl
    · cases e
  · next i j a b =>
    rw [i1.1 _ a, i2.1 _ b]
    split at e
    · next c => cases e; rw [decide_eq_true_eq] at c; simp only [OT.v]; rw [o_mod c]; exact OPs.sc rfl rfl
    · cases e
  · next i j a b =>
    rw [i1.1 _ a, i2.1 _ b]
    split at e
    · next c => cases e; simp only [Bool.and_eq_true, decide_eq_true_eq] at c; simp only [OT.v]; rw [o_pow c.1.1 c.1.2 c.2]; exact OPs.sc rfl rfl
    · cases e
  · next i j a b => rw [i1.1 _ a, i2.1 _ b]; cases e; exact OPs.sc rfl rfl
  · next x y a b =>
    have ok1 := ok
    have ok2 := ok'
    rw [i1.2.2.1 _ a] at ok1
    rw [i2.2.2.1 _ b] at ok2
    rw [i1.2.2.1 _ a, i2.2.2.1 _ b]
    split at e
    · next c =>
      cases e
      have c' := blt_isz c
      have : binA .add h (OT.sc (.str x)).v (OT.sc (.str y)).v = Rs.ok (AV.str (x ++ y)) h := by
        show (if isz (x.length + y.length) then Rs.ok (AV.str (x ++ y)) h else .no) = _
        rw [c'.1]; rfl
      rw [this, okR_ok]
      refine OPs.sc ?_ rfl
      simp only [OT.Ok, avOk, Bool.and_eq_true] at ok1 ok2 ⊢
      have e1 : (x ++ y).cps.toList = x.cps.toList ++ y.cps.toList := by
        show (x.cps ++ y.cps).toList = _
        simp
      have e2 : (x ++ y).length = x.length + y.length := by
        show (x.cps ++ y.cps).size = _
        simp [Str.length]
      rw [e1, List.all_append, ok1.1, ok2.1, e2, c'.1]; exact ⟨rfl, rfl⟩
    · cases e
  · next xs ys a b =>
    obtain ⟨p, ts, e1, e2⟩ := l1 _ a
    subst e1
    subst e2
    obtain ⟨p', us, e1, e2⟩ := l2 _ b
    subst e1
    subst e2
    split at e
    · next c =>
      cases e
      simp only [List.length_map] at c
      have c' := blt_isz c
      have ok1 := ok
      have ok2 := ok'
      simp only [OT.Ok] at ok1 ok2
      simp only [OT.v]
      rw [o_addl ok1.2.2.1 ok2.2.2.1 (by simp; omega)]
      rw [← List.map_append, ← List.map_append]
      simp only [OT.ls, List.mem_cons] at hS hS' hb
      have okk := ok1.2.2.2.2.app ok2.2.2.2.2
      refine OPs.lst hn okk (by simp; omega) (fun a ha => ?_) (fun a ha => ?_) fun e => lvK_nil okk e
      · rw [lsL_app, List.mem_append] at ha
        rcases ha with z | z
        · exact hS a (.inr z)
        · exact hS' a (.inr z)
      · rw [lsL_app, List.mem_append] at ha
        rcases ha with z | z
        · exact hb.1 a (.inr z)
        · exact hb.2 a (.inr z)
    · cases e
  · next xs ys a b =>
    obtain ⟨p, ts, e1, e2⟩ := t1 _ a
    subst e1
    subst e2
    obtain ⟨p', us, e1, e2⟩ := t2 _ b
    subst e1
    subst e2
    split at e
    · next c =>
      cases e
      simp only [List.length_map] at c
      have c' := blt_isz c
      have ok1 := ok
      have ok2 := ok'
      simp only [OT.Ok] at ok1 ok2
      have : binA .add h (OT.tup p ts).v (OT.tup p' us).v = if (ts.map OT.v).isEmpty then Rs.ok (AV.ref p') h else if (us.map OT.v).isEmpty then .ok (.ref p) h else .ok (.ref h.n) (h.add (.tup (ts.map OT.v ++ us.map OT.v))) := by
        show (match h.get p, h.get p' with
          | some (.lst xs), some (.lst ys) => if isz (xs.length + ys.length) then Rs.ok (AV.ref h.n) (h.add (.lst (xs ++ ys))) else .no
          | some (.tup xs), some (.tup ys) => if isz (xs.length + ys.length) then
              if xs.isEmpty then .ok (AV.ref p') h else if ys.isEmpty then .ok (.ref p) h else .ok (.ref h.n) (h.add (.tup (xs ++ ys)))
            else .no
          | _, _ => .no) = _
        simp only [ok1.2.2.1, ok2.2.2.1, List.length_map, c'.1, if_true]
      rw [this]
      simp only [OT.ls] at hS hS' hb
      have okk := ok1.2.2.2.2.app ok2.2.2.2.2
      cases ts with
      | nil =>
        simp only [List.map_nil, List.isEmpty_nil, if_true, okR_ok, List.nil_append]
        have := OPs.self (S := S) (l := lv0 (.tuple (us.map OT.d))) ok' (by simpa [OT.ls] using hS') (by have := Lv.lv0 (n := h.n) ok'; simpa [OT.d, dsL_map] using this)
        simp only [OT.d, dsL_map] at this
        exact this
      | cons t0 ts0 =>
        simp only [List.map_cons, List.isEmpty_cons]
        cases us with
        | nil =>
          have := OPs.self (S := S) (l := lv0 (.tuple ((t0 :: ts0).map OT.d))) ok (by simpa [OT.ls] using hS) (by have := Lv.lv0 (n := h.n) ok; simpa [OT.d, dsL_map] using this)
          simp only [OT.d, dsL_map, List.map_cons] at this
          simp
          exact this
        | cons u0 us0 =>
          simp only [List.map_cons, List.isEmpty_cons]
          have e0 : AV.ref h.n = .ref h.n := rfl
          rw [if_neg (by simp), if_neg (by simp)]
          rw [okR_ok, show (t0.v :: ts0.map OT.v) ++ (u0.v :: us0.map OT.v) = ((t0 :: ts0) ++ (u0 :: us0)).map OT.v by simp, show (t0.d :: ts0.map OT.d) ++ (u0.d :: us0.map OT.d) = ((t0 :: ts0) ++ (u0 :: us0)).map OT.d by simp]
          refine OPs.tup hn okk (by simp at c' ⊢; omega) (fun a ha => ?_) fun e => ?_
          · rw [lsL_app, List.mem_append] at ha
            rcases ha with z | z
            · exact hS a z
            · exact hS' a z
          · unfold lv0 at e
            split at e
            · next z => exact nolsL_ls okk (by rw [dsL_map]; simpa [nols] using z)
            · omega
    · cases e
  · cases e
end AH

set_option Elab.async false
set_option linter.all false
set_option maxRecDepth 100000
set_option maxHeartbeats 400000
/-! VW4: operations on trees: indexes, slices, builtins. -/
namespace AH
open PySem L2
theorem ls_sub : ∀ {ts : List OT} {x : OT}, x ∈ ts → x.ls.Sublist (lsL ts)
  | t :: r, x, h => by
    simp only [lsL]
    rcases List.mem_cons.1 h with e | e
    · subst e; exact List.sublist_append_left _ _
    · exact (ls_sub e).trans (List.sublist_append_right _ _)
theorem kids_ls {t : OT} : (lsL t.kids).Sublist t.ls := by
  cases t with
  | sc v => simp [OT.kids, lsL]
  | lst a xs => simp only [OT.kids, OT.ls]; exact List.sublist_cons_self _ _
  | tup a xs => simp only [OT.kids, OT.ls]; exact List.Sublist.refl _
  | edct a => simp [OT.kids, lsL]
theorem kid_sub {t x : OT} (h : x ∈ t.kids) : x.ls.Sublist t.ls := (ls_sub h).trans kids_ls
theorem atI_map {α β : Type} {f : α → β} {xs : List α} {i : Int} : atI (xs.map f) i = (atI xs i).map f := by
  unfold atI
  rw [List.length_map]
  cases ixN xs.length i with
  | none => rfl
  | some k => simp
theorem atI_mem {α : Type} {xs : List α} {i : Int} {x : α} (h : atI xs i = some x) : x ∈ xs := by
  unfold atI at h
  cases e : ixN xs.length i with
  | none => simp [e] at h
  | some k =>
    simp only [e, Option.bind_some] at h
    exact List.mem_of_getElem? h
theorem ix_ot {h : AHp} {t u : OT} {z : PyData} {X : QX} (ok : t.Ok h 3) (ok' : u.Ok h 3) (e : ixD t.d u.d = some z) : okR (ixA h t.v u.v) (fun v h' => h' = h ∧ ∃ r : OT, v = r.v ∧ r.Ok h 3 ∧ r.d = z ∧ r.ls.Sublist t.ls) X := by
  have i1 := sc_inv ok
  have i2 := sc_inv ok'
  unfold ixD at e
  split at e
  · next x i a b =>
    rw [i2.1 _ b]
    have ok1 := ok
    rw [i1.2.2.1 _ a] at ok1 ⊢
    simp only [OT.Ok, avOk, Bool.and_eq_true] at ok1
    split at e
    · next c =>
      rw [Option.map_eq_some_iff] at e
      obtain ⟨y, e1, e2⟩ := e
      have : ixA h (OT.sc (.str x)).v (OT.sc (.int i)).v = .ok (.str ⟨#[y]⟩) h := by
        simp only [OT.v, ixA, c, if_true, e1]
      rw [this]
      refine ⟨rfl, .sc (.str ⟨#[y]⟩), rfl, ?_, by simpa [OT.d, avD] using e2, by simp [OT.ls]⟩
      simp only [OT.Ok, avOk]
      have hy := atI_mem e1
      have := (List.all_eq_true.1 ok1.1) y hy
      have h1 : isz (Str.length ⟨#[y]⟩) = true := rfl
      rw [h1]
      simpa using this
    · cases e
  · next xs i a b =>
    rw [i2.1 _ b]
    obtain ⟨p, ts, e1, e2⟩ := lst_inv a
    subst e1
    subst e2
    rw [atI_map, Option.map_eq_some_iff] at e
    obtain ⟨r, e1, e2⟩ := e
    have ok1 := ok
    simp only [OT.Ok] at ok1
    have : ixA h (OT.lst p ts).v (OT.sc (.int i)).v = .ok r.v h := by
      simp only [OT.v, ixA, ok1.2.2.1]
      have : atI (ts.map OT.v) i = some r.v := by rw [atI_map, e1]; rfl
      simp only [OT.v] at this
      simp only [this]
    rw [this]
    exact ⟨rfl, r, rfl, ok.kid (atI_mem e1), e2, kid_sub (t := .lst p ts) (atI_mem e1)⟩
  · next xs i a b =>
    rw [i2.1 _ b]
    obtain ⟨p, ts, e1, e2⟩ := tup_inv a
    subst e1
    subst e2
    rw [atI_map, Option.map_eq_some_iff] at e
    obtain ⟨r, e1, e2⟩ := e
    have ok1 := ok
    simp only [OT.Ok] at ok1
    have : ixA h (OT.tup p ts).v (OT.sc (.int i)).v = .ok r.v h := by
      simp only [OT.v, ixA, ok1.2.2.1]
      have : atI (ts.map OT.v) i = some r.v := by rw [atI_map, e1]; rfl
      simp only [OT.v] at this
      simp only [this]
    rw [this]
    exact ⟨rfl, r, rfl, ok.kid (atI_mem e1), e2, kid_sub (t := .tup p ts) (atI_mem e1)⟩
  · cases e
theorem cutA_map {α β : Type} {f : α → β} {xs : List α} {lo hi : Option Int} : cutA (xs.map f) lo hi = (cutA xs lo hi).map f := by
  unfold cutA
  rw [List.length_map, List.map_take, List.map_drop]
theorem cutA_mem {α : Type} {xs : List α} {lo hi : Option Int} {x : α} (h : x ∈ cutA xs lo hi) : x ∈ xs := List.mem_of_mem_drop (List.mem_of_mem_take h)
theorem cutA_len {α : Type} {xs : List α} {lo hi : Option Int} : (cutA xs lo hi).length ≤ xs.length := by
  unfold cutA
  rw [List.length_take, List.length_drop]; omega
theorem lsL_mono {ts us : List OT} (h : ∀ x ∈ ts, x ∈ us) : ∀ a ∈ lsL ts, a ∈ lsL us := fun a ha => by
  obtain ⟨x, h1, h2⟩ := lsL_mem.1 ha
  exact lsL_mem.2 ⟨x, h x h1, h2⟩
theorem sl_ot {h : AHp} {t : OT} {lo hi : Option Int} {z : PyData × Nat} {S : Nat → Prop} {X : QX} (hn : 3 ≤ h.n) (ok : t.Ok h 3) (hS : ∀ a ∈ t.ls, S a) (hb : ∀ a ∈ t.ls, a < h.n) (e : slD t.d lo hi = some z) : okR (slA h t.v lo hi) (OPs S h z.1 z.2) X := by
  have i1 := sc_inv ok
  unfold slD at e
  split at e
  · next x a =>
    have ok1 := ok
    rw [i1.2.2.1 _ a] at ok1 ⊢
    simp only [OT.Ok, avOk, Bool.and_eq_true] at ok1
    split at e
    · next c =>
      cases e
      have : slA h (OT.sc (.str x)).v lo hi = .ok (.str ⟨(cutA x.cps.toList lo hi).toArray⟩) h := by
        simp only [OT.v, slA, c, if_true]
      rw [this]
      refine OPs.sc ?_ rfl
      simp only [avOk, Bool.and_eq_true, List.all_eq_true]
      refine ⟨fun y hy => List.all_eq_true.1 ok1.1 y (cutA_mem (by simpa using hy)), ?_⟩
      have h1 := cutA_len (xs := x.cps.toList) (lo := lo) (hi := hi)
      have h2 : x.length ≤ 16777216 := Nat.le_of_ble_eq_true ok1.2
      refine isz_ok ?_
      simp only [Str.length, List.size_toArray] at h2 ⊢
      simp only [Array.length_toList] at h1
      omega
    · cases e
  · next xs a =>
    obtain ⟨p, ts, e1, e2⟩ := lst_inv a
    subst e1
    subst e2
    cases e
    have ok1 := ok
    simp only [OT.Ok] at ok1
    have : slA h (OT.lst p ts).v lo hi = .ok (.ref h.n) (h.add (.lst (cutA (ts.map OT.v) lo hi))) := by
      simp only [OT.v, slA, ok1.2.2.1]
    rw [this, okR_ok, cutA_map, cutA_map]
    have okc : OksL h 3 (cutA ts lo hi) := OksL_iff.2 fun x hx => OksL_iff.1 ok1.2.2.2.2 x (cutA_mem hx)
    have hl := cutA_len (xs := ts) (lo := lo) (hi := hi)
    simp only [OT.ls, List.mem_cons] at hS hb
    exact OPs.lst hn okc (by omega) (fun a ha => hS a (.inr (lsL_mono (fun x hx => cutA_mem hx) a ha))) (fun a ha => hb a (.inr (lsL_mono (fun x hx => cutA_mem hx) a ha))) fun e => lvK_nil okc e
  · next xs a =>
    obtain ⟨p, ts, e1, e2⟩ := tup_inv a
    subst e1
    subst e2
    cases e
    have ok1 := ok
    simp only [OT.Ok] at ok1
    simp only [OT.ls] at hS hb
    have okc : OksL h 3 (cutA ts lo hi) := OksL_iff.2 fun x hx => OksL_iff.1 ok1.2.2.2.2 x (cutA_mem hx)
    have hl := cutA_len (xs := ts) (lo := lo) (hi := hi)
    have e0 : slA h (OT.tup p ts).v lo hi = if decide (HT.sIx (ts.map OT.v).length 0 lo = 0) && decide (HT.sIx (ts.map OT.v).length (ts.map OT.v).length hi = (ts.map OT.v).length) then .ok (AV.ref p) h else .ok (.ref h.n) (h.add (.tup (cutA (ts.map OT.v) lo hi))) := by
      show (match h.get p with
        | some (.lst xs) => Rs.ok (AV.ref h.n) (h.add (.lst (cutA xs lo hi)))
        | some (.tup xs) => if decide (HT.sIx xs.length 0 lo = 0) && decide (HT.sIx xs.length xs.length hi = xs.length) then .ok (.ref p) h else .ok (.ref h.n) (h.add (.tup (cutA xs lo hi)))
        | _ => .no) = _
      simp only [ok1.2.2.1]
    rw [e0]
    split
    · next c =>
      rw [Bool.and_eq_true, decide_eq_true_eq, decide_eq_true_eq, List.length_map] at c
      have : cutA (ts.map OT.d) lo hi = ts.map OT.d := by
        unfold cutA
        rw [List.length_map, c.1, c.2, List.drop_zero, Nat.sub_zero, List.take_of_length_le (by simp)]
      rw [this]
      have := OPs.self (S := S) (l := lv0 (.tuple (ts.map OT.d))) ok (by simpa [OT.ls] using hS) (by have := Lv.lv0 (n := h.n) ok; simpa [OT.d, dsL_map] using this)
      simp only [OT.d, dsL_map] at this
      exact this
    · rw [okR_ok, cutA_map, cutA_map]
      refine OPs.tup hn okc (by omega) (fun a ha => hS a (lsL_mono (fun x hx => cutA_mem hx) a ha)) fun e => ?_
      unfold lv0 at e
      split at e
      · next z => exact nolsL_ls okc (by rw [dsL_map]; simpa [nols] using z)
      · omega
  · cases e
theorem intsD_ot {h : AHp} : ∀ {ts : List OT} {ns : List Int}, OksL h 3 ts → intsD (ts.map OT.d) = some ns → intsOf (ts.map OT.v) = some ns
  | [], ns, _, e => e
  | t :: r, ns, ok, e => by
    simp only [OksL] at ok
    simp only [List.map_cons] at e ⊢
    cases t with
    | sc v =>
      cases v <;> simp only [OT.d, avD, intsD, Option.map_eq_some_iff] at e <;> first | (cases e; done) | skip
      obtain ⟨m, e1, e2⟩ := e
      simp only [OT.v, intsOf]
      rw [show intsOf (r.map _) = some m from intsD_ot ok.2 e1, ← e2]; rfl
    | _ => simp [OT.d, intsD] at e
theorem blsD_ot {h : AHp} : ∀ {ts : List OT} {ns : List Bool}, OksL h 3 ts → blsD (ts.map OT.d) = some ns → blsOf (ts.map OT.v) = some ns
  | [], ns, _, e => e
  | t :: r, ns, ok, e => by
    simp only [OksL] at ok
    simp only [List.map_cons] at e ⊢
    cases t with
    | sc v =>
      cases v <;> simp only [OT.d, avD, blsD, Option.map_eq_some_iff] at e <;> first | (cases e; done) | skip
      obtain ⟨m, e1, e2⟩ := e
      simp only [OT.v, blsOf]
      rw [show blsOf (r.map _) = some m from blsD_ot ok.2 e1, ← e2]; rfl
    | _ => simp [OT.d, blsD] at e
theorem map1 {ts : List OT} {x : PyData} (e : ts.map OT.d = [x]) : ∃ t, ts = [t] ∧ t.d = x := by
  match ts, e with
  | [t], e => exact ⟨t, rfl, by simpa using e⟩
  | [], e => simp at e
  | _ :: _ :: _, e => simp at e
theorem map2 {ts : List OT} {x y : PyData} (e : ts.map OT.d = [x, y]) : ∃ t u, ts = [t, u] ∧ t.d = x ∧ u.d = y := by
  match ts, e with
  | [t, u], e => exact ⟨t, u, rfl, by simpa using e⟩
  | [], e => simp at e
  | [_], e => simp at e
  | _ :: _ :: _ :: _, e => simp at e
theorem blt_ot {h : AHp} {ts : List OT} {b : Bi} {z : PyData} {S : Nat → Prop} {X : QX} (ok : OksL h 3 ts) (e : bltD b (ts.map OT.d) = some z) : okR (bltA b h (ts.map OT.v)) (OPs S h z 2) X := by
  unfold bltD at e
  split at e
  · next x a =>
    obtain ⟨t, rfl, a'⟩ := map1 a
    simp only [OksL] at ok
    rw [(sc_inv ok.1).2.2.1 _ a']
    split at e
    · next c => cases e; simp only [List.map_cons, List.map_nil, OT.v, bltA, c, if_true, okR_ok]; exact OPs.sc rfl rfl
    · cases e
  · next xs a =>
    obtain ⟨t, rfl, a'⟩ := map1 a
    simp only [OksL] at ok
    obtain ⟨p, us, e1, e2⟩ := lst_inv a'
    subst e1
    subst e2
    cases e
    have ok1 := ok.1
    simp only [OT.Ok] at ok1
    simp only [List.map_cons, List.map_nil, OT.v, bltA, ok1.2.2.1, okR_ok, List.length_map]
    exact OPs.sc rfl rfl
  · next xs a =>
    obtain ⟨t, rfl, a'⟩ := map1 a
    simp only [OksL] at ok
    obtain ⟨p, us, e1, e2⟩ := tup_inv a'
    subst e1
    subst e2
    cases e
    have ok1 := ok.1
    simp only [OT.Ok] at ok1
    simp only [List.map_cons, List.map_nil, OT.v, bltA, ok1.2.2.1, okR_ok, List.length_map]
    exact OPs.sc rfl rfl
  · next xs a =>
    obtain ⟨t, rfl, a'⟩ := map1 a
    simp only [OksL] at ok
    cases t with
    | sc v => cases v <;> simp [OT.d, avD] at a'
    | lst p us => simp [OT.d] at a'
    | tup p us => simp [OT.d] at a'
    | edct p =>
      simp only [OT.d, PyData.dict.injEq] at a'
      subst a'
      cases e
      have ok1 := ok.1
      simp only [OT.Ok] at ok1
      simp only [List.map_cons, List.map_nil, OT.v, bltA, ok1.2.2, okR_ok]
      exact OPs.sc rfl rfl
  · next i a =>
    obtain ⟨t, rfl, a'⟩ := map1 a
    simp only [OksL] at ok
    rw [(sc_inv ok.1).1 _ a']
    cases e
    exact OPs.sc rfl rfl
  · next i a =>
    obtain ⟨t, rfl, a'⟩ := map1 a
    simp only [OksL] at ok
    rw [(sc_inv ok.1).2.1 _ a']
    cases e
    exact OPs.sc rfl rfl
  · next i j a =>
    obtain ⟨t, u, rfl, a', b'⟩ := map2 a
    simp only [OksL] at ok
    rw [(sc_inv ok.1).1 _ a', (sc_inv ok.2.1).1 _ b']
    cases e
    exact OPs.sc rfl rfl
  · next i j a =>
    obtain ⟨t, u, rfl, a', b'⟩ := map2 a
    simp only [OksL] at ok
    rw [(sc_inv ok.1).1 _ a', (sc_inv ok.2.1).1 _ b']
    cases e
    exact OPs.sc rfl rfl
  · next xs a =>
    obtain ⟨t, rfl, a'⟩ := map1 a
    simp only [OksL] at ok
    obtain ⟨p, us, e1, e2⟩ := lst_inv a'
    subst e1
    subst e2
    have ok1 := ok.1
    simp only [OT.Ok] at ok1
    rw [Option.map_eq_some_iff] at e
    obtain ⟨ns, e1, e2⟩ := e
    subst e2
    have := intsD_ot ok1.2.2.2.2 e1
    have e3 : bltA .sum h [(OT.lst p us).v] = .ok (.int ns.sum) h := by
      show (match h.get p with
        | some (.lst xs) => match intsOf xs with
          | some ns => Rs.ok (AV.int ns.sum) h
          | none => .no
        | _ => .no) = _
      simp only [ok1.2.2.1, this]
    simp only [List.map_cons, List.map_nil, e3, okR_ok]
    exact OPs.sc rfl rfl
  · next xs a =>
    obtain ⟨t, rfl, a'⟩ := map1 a
    simp only [OksL] at ok
    obtain ⟨p, us, e1, e2⟩ := lst_inv a'
    subst e1
    subst e2
    have ok1 := ok.1
    simp only [OT.Ok] at ok1
    rw [Option.map_eq_some_iff] at e
    obtain ⟨ns, e1, e2⟩ := e
    subst e2
    have := blsD_ot ok1.2.2.2.2 e1
    have e3 : bltA .all h [(OT.lst p us).v] = .ok (.bl (ns.all id)) h := by
      show (match h.get p with
        | some (.lst xs) => match blsOf xs with
          | some bs => Rs.ok (AV.bl (bs.all id)) h
          | none => .no
        | _ => .no) = _
      simp only [ok1.2.2.1, this]
    simp only [List.map_cons, List.map_nil, e3, okR_ok]
    exact OPs.sc rfl rfl
  · next xs a =>
    obtain ⟨t, rfl, a'⟩ := map1 a
    simp only [OksL] at ok
    obtain ⟨p, us, e1, e2⟩ := lst_inv a'
    subst e1
    subst e2
    have ok1 := ok.1
    simp only [OT.Ok] at ok1
    rw [Option.map_eq_some_iff] at e
    obtain ⟨ns, e1, e2⟩ := e
    subst e2
    have := blsD_ot ok1.2.2.2.2 e1
    have e3 : bltA .any h [(OT.lst p us).v] = .ok (.bl (ns.any id)) h := by
      show (match h.get p with
        | some (.lst xs) => match blsOf xs with
          | some bs => Rs.ok (AV.bl (bs.any id)) h
          | none => .no
        | _ => .no) = _
      simp only [ok1.2.2.1, this]
    simp only [List.map_cons, List.map_nil, e3, okR_ok]
    exact OPs.sc rfl rfl
  · cases e
theorem ty_ot {h : AHp} {lo : Nat} {t : OT} (ok : t.Ok h lo) {ts : List Ty} : tyAny h t.v ts = some (tyD t.d ts) := by
  rw [tyAny_ot ok]
  unfold OT.ty tyD
  congr 2
  cases t with
  | sc v => cases v <;> first | rfl | (simp [OT.Ok, avOk] at ok)
  | _ => rfl
theorem sqD_inv {t : OT} {ds : List PyData} (e : sqD t.d = some ds) : t.isN = true ∧ ds = t.kids.map OT.d := by
  cases t with
  | sc v => cases v <;> simp [OT.d, avD, sqD] at e
  | lst a xs => simp only [OT.d, sqD, dsL_map, Option.some.injEq] at e; exact ⟨rfl, e.symm⟩
  | tup a xs => simp only [OT.d, sqD, dsL_map, Option.some.injEq] at e; exact ⟨rfl, e.symm⟩
  | edct a => simp [OT.d, sqD] at e
theorem lstE_ot {h : AHp} {t : OT} {ds : List PyData} {S : Nat → Prop} {X : QX} (hn : 3 ≤ h.n) (ok : t.Ok h 3) (hS : ∀ a ∈ t.ls, S a) (hb : ∀ a ∈ t.ls, a < h.n) (e : sqD t.d = some ds) : okR (lstA h t.v) (OPs S h (.list ds) (lvK ds)) X := by
  obtain ⟨n, rfl⟩ := sqD_inv e
  rw [o_lstE (ok.vals n)]
  have okk : OksL h 3 t.kids := OksL_iff.2 fun x hx => ok.kid hx
  exact OPs.lst hn okk ok.klen (fun a ha => hS a (kids_ls.subset ha)) (fun a ha => hb a (kids_ls.subset ha)) fun e => lvK_nil okk e
theorem tupE_ot {h : AHp} {t : OT} {ds : List PyData} {S : Nat → Prop} {X : QX} (hn : 3 ≤ h.n) (ok : t.Ok h 3) (hS : ∀ a ∈ t.ls, S a) (e : sqD t.d = some ds) : okR (tupA h t.v) (OPs S h (.tuple ds) (lv0 (.tuple ds))) X := by
  obtain ⟨n, rfl⟩ := sqD_inv e
  have okk : OksL h 3 t.kids := OksL_iff.2 fun x hx => ok.kid hx
  cases t with
  | sc v => simp [OT.isN] at n
  | edct a => simp [OT.isN] at n
  | lst a xs =>
    have ok1 := ok
    simp only [OT.Ok] at ok1
    simp only [OT.v, OT.kids] at okk ⊢
    rw [tupA_lst ok1.2.2.1]
    refine OPs.tup hn okk ok1.2.2.2.1 (fun a ha => hS a (by simp [OT.ls, ha])) fun e => ?_
    unfold lv0 at e
    split at e
    · next z => exact nolsL_ls okk (by rw [dsL_map]; simpa [nols] using z)
    · omega
  | tup a xs =>
    have ok1 := ok
    simp only [OT.Ok] at ok1
    have e0 : tupA h (OT.tup a xs).v = .ok (OT.tup a xs).v h := by
      show (match h.get a with
        | some (.lst xs) => Rs.ok (AV.ref h.n) (h.add (.tup xs))
        | some (.tup xs) => .ok (.ref a) h
        | _ => .no) = _
      simp only [ok1.2.2.1]; rfl
    rw [e0, okR_ok]
    have := OPs.self (S := S) (l := lv0 (.tuple (xs.map OT.d))) ok hS (by have := Lv.lv0 (n := h.n) ok; simpa [OT.d, dsL_map] using this)
    simp only [OT.d, dsL_map] at this
    exact this
end AH

set_option Elab.async false
set_option linter.all false
set_option maxRecDepth 100000
set_option maxHeartbeats 400000
/-! VW5: what is told of data holds of the heap: relations. -/
namespace AH
open PySem L2
def DrV (B : Nat) (h h' : AHp) : Prop := StrOk h' 2 1 B ∧ Keep (isStr 2 1) h h'
def RP (S : Nat → Prop) (h : AHp) (Q : WQ) : QV := fun v h' => ∃ (t : OT) (u B : Nat), v = t.v ∧ t.Ok h' 3 ∧ Lv t u h.n ∧ (∀ a ∈ t.ls, h.n ≤ a ∨ S a) ∧ DrV B h h' ∧ Q t.d u B
def XP (S : Nat → Prop) (h : AHp) (X : WX) : QX := fun c fs h' => ∃ (ts : List (Nat × OT)) (B : Nat), fs = ts.map (fun p => (p.1, p.2.v)) ∧ (∀ p ∈ ts, p.2.Ok h' 3 ∧ ∀ a ∈ p.2.ls, h.n ≤ a ∨ S a) ∧ DrV B h h' ∧ X c (ts.map fun p => (p.1, p.2.d)) B
def RPL (S : Nat → Prop) (h : AHp) (Q : List PyData → Nat → Nat → Prop) : List AV → AHp → Prop := fun vs h' => ∃ (ts : List OT) (m B : Nat), vs = ts.map OT.v ∧ OksL h' 3 ts ∧ (2 ≤ m → (lsL ts).Nodup ∧ ∀ a ∈ lsL ts, h.n ≤ a) ∧ (∀ a ∈ lsL ts, h.n ≤ a ∨ S a) ∧ DrV B h h' ∧ Q (ts.map OT.d) m B
def argV : Option OT → AV | some t => t.v | none => .ref 2
def argD : Option OT → VA | some t => .d t.d | none => .strm
def RPA (S : Nat → Prop) (h : AHp) (Q : List VA → Nat → Prop) : List AV → AHp → Prop := fun vs h' => ∃ (cs : List (Option OT)) (B : Nat), vs = cs.map argV ∧ (∀ t, some t ∈ cs → t.Ok h' 3 ∧ ∀ a ∈ t.ls, h.n ≤ a ∨ S a) ∧ DrV B h h' ∧ Q (cs.map argD) B
def ItT (it : It) (its : List (List OT)) (E : List OT) : Prop := it.len = its.length ∧ ∀ h', (∀ t ∈ E, t.Ok h' 3) → it.fin h' = true ∧ ∀ i (hi : i < its.length), it.item i h' = some (its[i].map OT.v) ∧ ∀ x ∈ its[i], x.Ok h' 3 ∧ ∀ a ∈ x.ls, a ∈ lsL E
def RPI (S : Nat → Prop) (h : AHp) (Q : List (List PyData) → Nat → Prop) : It → AHp → Prop := fun it h' => ∃ (its : List (List OT)) (E : List OT) (B : Nat), ItT it its E ∧ (∀ t ∈ E, t.Ok h' 3 ∧ ∀ a ∈ t.ls, h.n ≤ a ∨ S a) ∧ DrV B h h' ∧ Q (its.map fun x => x.map OT.d) B
def R1 (h : AHp) (x : Option VS) (y : Option (Option AV)) (t : OT) : Prop := match x with
  | some (.v d u) => y = some (some t.v) ∧ t.Ok h 3 ∧ t.d = d
  | some .strm => y = some (some (.ref 2))
  | some .no => ∀ v, y = some (some v) → flatA v = false
  | none => True
def RelE (σv : VSl) (σ : Sl) (h : AHp) (ts : Nat → OT) : Prop := σv.length = σ.length ∧ ∀ i, R1 h σv[i]? σ[i]? (ts i)
def SoundC (V : VC) : Prop := ∀ (f : Nat) (cs : List (Option OT)) (B : Nat) (Q : WQ) (X : WX) (h : AHp) (S : Nat → Prop), (∀ t, some t ∈ cs → t.Ok h 3 ∧ ∀ a ∈ t.ls, S a) → StrOk h 2 1 B → V.call f (cs.map argD) B Q X → okR (V.C.callf f (cs.map argV) h) (RP S h Q) (XP S h X)
theorem StrOk.n3 {h : AHp} {B : Nat} (q : StrOk h 2 1 B) : 3 ≤ h.n := by
  obtain ⟨_, _, _, _, _, _, _, g, _⟩ := q
  omega
theorem str_lt : ∀ a, isStr 2 1 a → a < 3 := isStr_lt (by decide) (by decide)
theorem DrV.rfl' {B : Nat} {h : AHp} (q : StrOk h 2 1 B) : DrV B h h := ⟨q, .refl⟩
theorem DrV.trans {B B' : Nat} {h h1 h2 : AHp} (a : DrV B h h1) (b : DrV B' h1 h2) : DrV B' h h2 := ⟨b.1, a.2.trans b.2⟩
theorem DrV.noA {B : Nat} {h h1 h2 : AHp} (a : DrV B h h1) (k : Keep AH.noA h1 h2) : DrV B h h2 := ⟨a.1.keep k id id, a.2.trans k.noA⟩
theorem OT.Ok.dr {B : Nat} {h h' : AHp} {t : OT} (ok : t.Ok h 3) (d : DrV B h h') : t.Ok h' 3 := ok.keep d.2 str_lt
theorem OksL.dr {B : Nat} {h h' : AHp} {t : List OT} (ok : OksL h 3 t) (d : DrV B h h') : OksL h' 3 t := ok.keep d.2 str_lt
theorem okR_mono2 {α : Type} {r : Rs α} {Q Q' : α → AHp → Prop} {X X' : QX} (h : okR r Q X) (f : ∀ v h, Q v h → Q' v h) (g : ∀ c fs h, X c fs h → X' c fs h) : okR r Q' X' := by
  cases r with
  | ok v h' => exact f _ _ h
  | ex c fs h' => exact g _ _ _ h
  | no => exact h
theorem RP.lift {S : Nat → Prop} {h h1 : AHp} {B : Nat} {Q : WQ} {v : AV} {h' : AHp} (d : DrV B h h1) (q : RP S h1 Q v h') : RP S h Q v h' := by
  obtain ⟨t, u, B', e, ok, l, al, dr, q⟩ := q
  exact ⟨t, u, B', e, ok, l.mono d.2.1, fun a ha => (al a ha).imp (Nat.le_trans d.2.1) id, d.trans dr, q⟩
theorem XP.lift {S : Nat → Prop} {h h1 : AHp} {B : Nat} {X : WX} {c : Nat} {fs : List (Nat × AV)} {h' : AHp} (d : DrV B h h1) (q : XP S h1 X c fs h') : XP S h X c fs h' := by
  obtain ⟨ts, B', e, ok, dr, q⟩ := q
  exact ⟨ts, B', e, fun p hp => ⟨(ok p hp).1, fun a ha => ((ok p hp).2 a ha).imp (Nat.le_trans d.2.1) id⟩, d.trans dr, q⟩
theorem RPL.lift {S : Nat → Prop} {h h1 : AHp} {B : Nat} {Q : List PyData → Nat → Nat → Prop} {v : List AV} {h' : AHp} (d : DrV B h h1) (q : RPL S h1 Q v h') : RPL S h Q v h' := by
  obtain ⟨t, u, B', e, ok, l, al, dr, q⟩ := q
  exact ⟨t, u, B', e, ok, fun h2 => ⟨(l h2).1, fun a ha => Nat.le_trans d.2.1 ((l h2).2 a ha)⟩, fun a ha => (al a ha).imp (Nat.le_trans d.2.1) id, d.trans dr, q⟩
theorem RPI.lift {S : Nat → Prop} {h h1 : AHp} {B : Nat} {Q : List (List PyData) → Nat → Prop} {v : It} {h' : AHp} (d : DrV B h h1) (q : RPI S h1 Q v h') : RPI S h Q v h' := by
  obtain ⟨t, E, B', e, ok, dr, q⟩ := q
  exact ⟨t, E, B', e, fun p hp => ⟨(ok p hp).1, fun a ha => ((ok p hp).2 a ha).imp (Nat.le_trans d.2.1) id⟩, d.trans dr, q⟩
/-- behind a part -/
theorem bindRP {α : Type} {r : Rs AV} {f : AV → AHp → Rs α} {S : Nat → Prop} {h : AHp} {Q1 : WQ} {X : WX} {G : α → AHp → Prop} {Y : QX} (hr : okR r (RP S h Q1) (XP S h X)) (hx : ∀ c fs h', XP S h X c fs h' → Y c fs h')
    (hf : ∀ (t : OT) (u B1 : Nat) (h1 : AHp), t.Ok h1 3 → Lv t u h.n → (∀ a ∈ t.ls, h.n ≤ a ∨ S a) → DrV B1 h h1 → Q1 t.d u B1 → okR (f t.v h1) G Y) : okR (r.bind f) G Y := by
  rw [okR_bind]
  refine okR_mono2 hr (fun v h1 ⟨t, u, B1, e, ok, l, al, d, q⟩ => ?_) hx
  subst e
  exact hf t u B1 h1 ok l al d q
theorem bindRPL {α : Type} {r : Rs (List AV)} {f : List AV → AHp → Rs α} {S : Nat → Prop} {h : AHp} {Q1 : List PyData → Nat → Nat → Prop} {X : WX} {G : α → AHp → Prop} {Y : QX} (hr : okR r (RPL S h Q1) (XP S h X)) (hx : ∀ c fs h', XP S h X c fs h' → Y c fs h')
    (hf : ∀ (ts : List OT) (m B1 : Nat) (h1 : AHp), OksL h1 3 ts → (2 ≤ m → (lsL ts).Nodup ∧ ∀ a ∈ lsL ts, h.n ≤ a) → (∀ a ∈ lsL ts, h.n ≤ a ∨ S a) → DrV B1 h h1 → Q1 (ts.map OT.d) m B1 → okR (f (ts.map OT.v) h1) G Y) : okR (r.bind f) G Y := by
  rw [okR_bind]
  refine okR_mono2 hr (fun v h1 ⟨t, u, B1, e, ok, l, al, d, q⟩ => ?_) hx
  subst e
  exact hf t u B1 h1 ok l al d q
theorem OPs.rp {S S' : Nat → Prop} {h h2 h3 : AHp} {z : PyData} {l B : Nat} {v : AV} {Q : WQ} (q : OPs S' h2 z l v h3) (hS : ∀ a, S' a → h.n ≤ a ∨ S a) (d : DrV B h h2) (hQ : Q z l B) : RP S h Q v h3 := by
  obtain ⟨r, e, ok, ed, lv, al, k⟩ := q
  refine ⟨r, l, B, e, ok, lv.mono d.2.1, fun a ha => ?_, d.noA k, by rw [ed]; exact hQ⟩
  rcases al a ha with e | e
  · exact .inl (Nat.le_trans d.2.1 e)
  · exact hS a e
theorem RP.sc {S : Nat → Prop} {h h1 : AHp} {Q : WQ} {v : AV} {B u : Nat} (hv : avOk v = true) (d : DrV B h h1) (q : Q (avD v) u B) : RP S h Q v h1 := ⟨.sc v, u, B, rfl, by simpa [OT.Ok] using hv, .sc, by simp [OT.ls], d, by simpa [OT.d] using q⟩
theorem ls_lt {h : AHp} {t : OT} (ok : t.Ok h 3) : ∀ a ∈ t.ls, a < h.n := fun a ha => (ok.ls_ge a ha).2
theorem lsL_lt {h : AHp} {t : List OT} (ok : OksL h 3 t) : ∀ a ∈ lsL t, a < h.n := fun a ha => (ok.ls_ge a ha).2
/-! ### slots -/
theorem RelE.dr {σv : VSl} {σ : Sl} {h h' : AHp} {ts : Nat → OT} {B : Nat} (r : RelE σv σ h ts) (d : DrV B h h') : RelE σv σ h' ts := by
  refine ⟨r.1, fun i => ?_⟩
  have := r.2 i
  unfold R1 at this ⊢
  split at this
  · exact ⟨this.1, this.2.1.dr d, this.2.2⟩
  · exact this
  · exact this
  · trivial
def updT (ts : Nat → OT) (i : Nat) (t : OT) : Nat → OT := fun j => if j = i then t else ts j
theorem RelE.set {σv : VSl} {σ : Sl} {h : AHp} {ts : Nat → OT} (r : RelE σv σ h ts) {t : OT} (ok : t.Ok h 3) (i u : Nat) : RelE (σv.set i (.v t.d u)) (σ.set i (some t.v)) h (updT ts i t) := by
  refine ⟨by simp [r.1], fun j => ?_⟩
  have := r.2 j
  unfold updT
  by_cases e : j = i
  · subst e
    rw [if_pos rfl, List.getElem?_set, List.getElem?_set, if_pos rfl, if_pos rfl, r.1]
    split
    · exact ⟨rfl, ok, rfl⟩
    · trivial
  · rw [if_neg e, List.getElem?_set_ne (Ne.symm e), List.getElem?_set_ne (Ne.symm e)]
    exact this
theorem RelE.wipe {σv : VSl} {σ : Sl} {h : AHp} {ts : Nat → OT} (r : RelE σv σ h ts) : ∀ own : List Nat, RelE (wipeV σv own) (wipeA σ own) h ts ∧ ∀ (i : Nat) (d : PyData) (u : Nat), (wipeV σv own)[i]? = some (VS.v d u) → σv[i]? = some (VS.v d u)
  | [] => ⟨r, fun _ _ _ e => e⟩
  | v :: vs => by
    obtain ⟨r1, r2⟩ := RelE.wipe r vs
    simp only [wipeV, wipeA]
    refine ⟨⟨by simp [r1.1], fun j => ?_⟩, fun j d u e => ?_⟩
    · have := r1.2 j
      by_cases e : j = v
      · subst e
        rw [List.getElem?_set, List.getElem?_set, if_pos rfl, if_pos rfl, r1.1]
        split
        · intro v e; cases e
        · trivial
      · rw [List.getElem?_set_ne (Ne.symm e), List.getElem?_set_ne (Ne.symm e)]
        exact this
    · by_cases e' : v = j
      · subst e'
        rw [List.getElem?_set, if_pos rfl] at e
        split at e <;> simp at e
      · rw [List.getElem?_set_ne e'] at e
        exact r2 j d u e
/-- behind a binding: slots are old ones or of what was bound -/
def Bd (σv σv' : VSl) (ts ts' : Nat → OT) (T : Nat → Prop) : Prop := ∀ i d u, σv'[i]? = some (.v d u) → (σv[i]? = some (.v d u) ∧ ts' i = ts i) ∨ (u = 0 ∧ ∀ a ∈ (ts' i).ls, T a)
theorem Bd.set {σv σv0 : VSl} {ts ts0 : Nat → OT} {T : Nat → Prop} {t : OT} {i : Nat} (b : Bd σv0 σv ts0 ts T) (ht : ∀ a ∈ t.ls, T a) : Bd σv0 (σv.set i (.v t.d 0)) ts0 (updT ts i t) T := by
  intro j d w e
  by_cases e' : i = j
  · subst e'
    right
    rw [List.getElem?_set, if_pos rfl] at e
    split at e
    · cases e; exact ⟨rfl, by simpa [updT] using ht⟩
    · cases e
  · rw [List.getElem?_set_ne e'] at e
    rcases b j d w e with ⟨z1, z2⟩ | ⟨z0, z⟩
    · exact .inl ⟨z1, by simp [updT, Ne.symm e', z2]⟩
    · exact .inr ⟨z0, by simpa [updT, Ne.symm e'] using z⟩
mutual
theorem bindG_ok {h : AHp} {T : Nat → Prop} : ∀ (g : G) {σv σv1 σv0 : VSl} {σ : Sl} {ts ts0 : Nat → OT} {t : OT}, RelE σv σ h ts → Bd σv0 σv ts0 ts T → t.Ok h 3 → (∀ a ∈ t.ls, T a) → bindG1V g t.d σv = some σv1 → ∃ σ1 ts1, bindG h g t.v σ = some σ1 ∧ RelE σv1 σ1 h ts1 ∧ Bd σv0 σv1 ts0 ts1 T
  | .nm i, σv, σv1, σv0, σ, ts, ts0, t, r, b, ok, ht, e => by
    simp only [bindG1V, Option.some.injEq] at e
    subst e
    exact ⟨_, _, rfl, r.set ok i 0, b.set ht⟩
  | .tp gs, σv, σv1, σv0, σ, ts, ts0, t, r, b, ok, ht, e => by
    have key : t.isN = true → bindG1V.bindGsV gs (t.kids.map OT.d) σv = some σv1 → ∃ σ1 ts1, bindG h (.tp gs) t.v σ = some σ1 ∧ RelE σv1 σ1 h ts1 ∧ Bd σv0 σv1 ts0 ts1 T := by
      intro n e
      obtain ⟨σ1, ts1, e1, r1, b1⟩ := bindGs_ok gs r b (OksL_iff.2 fun x hx => ok.kid hx) (fun a ha => ht a (kids_ls.subset ha)) e
      refine ⟨σ1, ts1, ?_, r1, b1⟩
      obtain ⟨a, ev, g | g⟩ := ok.vals n
      · rw [ev]; simp only [bindG, g]; exact e1
      · rw [ev]; simp only [bindG, g]; exact e1
    cases t with
    | sc v => cases v <;> simp [OT.d, avD, bindG1V] at e
    | lst a xs => simp only [OT.d, bindG1V, dsL_map] at e; exact key rfl e
    | tup a xs => simp only [OT.d, bindG1V, dsL_map] at e; exact key rfl e
    | edct a => simp [OT.d, bindG1V] at e
theorem bindGs_ok {h : AHp} {T : Nat → Prop} : ∀ (gs : Gs) {σv σv1 σv0 : VSl} {σ : Sl} {ts ts0 : Nat → OT} {xs : List OT}, RelE σv σ h ts → Bd σv0 σv ts0 ts T → OksL h 3 xs → (∀ a ∈ lsL xs, T a) → bindG1V.bindGsV gs (xs.map OT.d) σv = some σv1 → ∃ σ1 ts1, bindGs h gs (xs.map OT.v) σ = some σ1 ∧ RelE σv1 σ1 h ts1 ∧ Bd σv0 σv1 ts0 ts1 T
  | .nil, σv, σv1, σv0, σ, ts, ts0, [], r, b, ok, ht, e => by
    simp only [List.map_nil, bindG1V.bindGsV, Option.some.injEq] at e
    subst e
    exact ⟨σ, ts, rfl, r, b⟩
  | .nil, σv, σv1, σv0, σ, ts, ts0, x :: xs, r, b, ok, ht, e => by simp [bindG1V.bindGsV] at e
  | .cons g gr, σv, σv1, σv0, σ, ts, ts0, [], r, b, ok, ht, e => by simp [bindG1V.bindGsV] at e
  | .cons g gr, σv, σv1, σv0, σ, ts, ts0, x :: xs, r, b, ok, ht, e => by
    simp only [OksL] at ok
    simp only [lsL, List.mem_append] at ht
    simp only [List.map_cons, bindG1V.bindGsV] at e
    split at e
    · next σ1v e1 =>
      obtain ⟨σ1, ts1, f1, r1, b1⟩ := bindG_ok g r b ok.1 (fun a ha => ht a (.inl ha)) e1
      obtain ⟨σ2, ts2, f2, r2, b2⟩ := bindGs_ok gr r1 b1 ok.2 (fun a ha => ht a (.inr ha)) e
      exact ⟨σ2, ts2, by simp only [List.map_cons, bindGs, f1]; exact f2, r2, b2⟩
    · cases e
end
theorem bindV_ok {h : AHp} {T : Nat → Prop} {g : G} {σv σv1 σv0 : VSl} {σ : Sl} {ts ts0 : Nat → OT} {xs : List OT} (r : RelE σv σ h ts) (b : Bd σv0 σv ts0 ts T) (ok : ∀ x ∈ xs, x.Ok h 3 ∧ ∀ a ∈ x.ls, T a) (e : bindV g (xs.map OT.d) σv = some σv1) : ∃ σ1 ts1, bindIt h g (xs.map OT.v) σ = some σ1 ∧ RelE σv1 σ1 h ts1 ∧ Bd σv0 σv1 ts0 ts1 T := by
  match xs, e with
  | [], e => cases g <;> simp [bindV] at e
  | [x], e =>
    simp only [List.map_cons, List.map_nil, bindV] at e
    obtain ⟨σ1, ts1, f1, r1, b1⟩ := bindG_ok g r b (ok x (by simp)).1 (ok x (by simp)).2 e
    exact ⟨σ1, ts1, by simp only [List.map_cons, List.map_nil, bindIt]; exact f1, r1, b1⟩
  | [x, y], e =>
    cases g with
    | nm i => simp [bindV] at e
    | tp gs =>
      simp only [List.map_cons, List.map_nil, bindV] at e
      obtain ⟨σ1, ts1, f1, r1, b1⟩ := bindGs_ok gs (xs := [x, y]) r b (by simp [OksL, (ok x (by simp)).1, (ok y (by simp)).1]) (fun a ha => by
        simp only [lsL, List.mem_append, List.append_nil] at ha
        rcases ha with e | e
        · exact (ok x (by simp)).2 a e
        · exact (ok y (by simp)).2 a (by simpa using e)) e
      exact ⟨σ1, ts1, by simp only [List.map_cons, List.map_nil, bindIt]; exact f1, r1, b1⟩
  | _ :: _ :: _ :: _, e => cases g <;> simp [bindV] at e
theorem scal_eq {h : AHp} : ∀ {σv : VSl} {σ : Sl} {ts : Nat → OT}, RelE σv σ h ts → scal σ = scalV σv
  | [], [], ts, r => rfl
  | [], _ :: _, ts, r => by simp [RelE] at r
  | _ :: _, [], ts, r => by simp [RelE] at r
  | x :: σv, y :: σ, ts, r => by
    have ih := scal_eq (σv := σv) (σ := σ) (ts := fun i => ts (i + 1)) ⟨by simpa using r.1, fun i => by simpa using r.2 (i + 1)⟩
    have r0 := r.2 0
    simp only [List.getElem?_cons_zero, R1] at r0
    cases x with
    | no =>
      simp only [scalV]
      cases y with
      | none => simp only [scal, ih]
      | some v => simp only [scal, ih, r0 v rfl]; rfl
    | strm =>
      simp only [Option.some.injEq] at r0
      subst r0
      simp only [scalV, scal, ih]; rfl
    | v d u =>
      obtain ⟨e, ok, ed⟩ := r0
      simp only [Option.some.injEq] at e
      subst e
      subst ed
      simp only [scalV, scal, ih]
      congr 1
      cases ht : ts 0 with
      | sc v =>
        rw [ht] at ok
        cases v <;> first | rfl | (simp [OT.Ok, avOk] at ok)
      | _ => rfl
end AH

set_option Elab.async false
set_option linter.all false
set_option maxRecDepth 100000
set_option maxHeartbeats 1000000
/-! VW6: what is told of data holds of the heap: parts of texts. -/
namespace AH
open PySem L2
mutual
def vsE : E → List Nat
  | .var i => [i]
  | .bin _ a b => vsE a ++ vsE b
  | .neg a => vsE a
  | .not a => vsE a
  | .and a b => vsE a ++ vsE b
  | .or a b => vsE a ++ vsE b
  | .cmp _ a b => vsE a ++ vsE b
  | .cmp2 _ _ a b c => vsE a ++ (vsE b ++ vsE c)
  | .ite c a b => vsE c ++ (vsE a ++ vsE b)
  | .lst es => vsL es
  | .tup es => vsL es
  | .lc e _ it _ => vsI it ++ vsE e
  | .lcf e _ it c _ => vsI it ++ (vsE c ++ vsE e)
  | .sub a i => vsE a ++ vsE i
  | .sl a lo hi => vsE a ++ (vsE lo ++ vsE hi)
  | .call _ es => vsL es
  | .callk _ es _ => vsL es
  | .blt _ es => vsL es
  | .isa e _ _ => vsE e
  | .lstE e => vsE e
  | .lstR1 e => vsE e
  | .lstR2 a b => vsE a ++ vsE b
  | .tupE e => vsE e
  | .met _ e => vsE e
  | _ => []
def vsL : L → List Nat
  | .nil => []
  | .cons e r => vsE e ++ vsL r
  | .star e r => vsE e ++ vsL r
def vsI : I → List Nat
  | .seq e => vsE e
  | .rng1 a => vsE a
  | .rng2 a b => vsE a ++ vsE b
  | .enum e => vsE e
  | .enumS e s => vsE e ++ vsE s
  | .zip a b => vsE a ++ vsE b
  | _ => []
end
def Al (vs : List Nat) (σv : VSl) (ts : Nat → OT) (S : Nat → Prop) : Prop := ∀ i ∈ vs, ∀ d u, σv[i]? = some (VS.v d u) → ∀ a ∈ (ts i).ls, S a
theorem Al.l {vs ws : List Nat} {σv : VSl} {ts : Nat → OT} {S : Nat → Prop} (h : Al (vs ++ ws) σv ts S) : Al vs σv ts S := fun i hi => h i (by simp [hi])
theorem Al.r {vs ws : List Nat} {σv : VSl} {ts : Nat → OT} {S : Nat → Prop} (h : Al (vs ++ ws) σv ts S) : Al ws σv ts S := fun i hi => h i (by simp [hi])
theorem al_up {S : Nat → Prop} {n m : Nat} {ls : List Nat} (e : n ≤ m) (q : ∀ a ∈ ls, m ≤ a ∨ S a) : ∀ a ∈ ls, n ≤ a ∨ S a := fun a ha => (q a ha).imp (Nat.le_trans e) id
/-- what a turn of a comprehension gives -/
def TP (S : Nat → Prop) (h : AHp) (K : Option (PyData × Nat) → Nat → Prop) : Option AV → AHp → Prop := fun o h' => match o with
  | some v => RP S h (fun d u B => K (some (d, u)) B) v h'
  | none => ∃ B, DrV B h h' ∧ K none B
theorem comp_ok {it : It} {its : List (List OT)} {E0 : List OT} {S : Nat → Prop} {h0 : AHp} {wt : List PyData → Nat → (Option (PyData × Nat) → Nat → Prop) → Prop} {turn : List AV → AHp → Rs (Option AV)} {G : List AV → AHp → Prop} {X : QX} (hi : ItT it its E0) (ok0 : ∀ t ∈ E0, t.Ok h0 3)
    (ht : ∀ i (hi : i < its.length) B1 h1 K, DrV B1 h0 h1 → wt (its[i].map OT.d) B1 K → okR (turn (its[i].map OT.v) h1) (TP S h1 K) noX) (Q : List PyData → Nat → Nat → Prop)
    (he : ∀ (ts : List OT) (m B1 : Nat) (h1 : AHp), OksL h1 3 ts → (2 ≤ m → (lsL ts).Nodup ∧ ∀ a ∈ lsL ts, h0.n ≤ a) → (∀ a ∈ lsL ts, h0.n ≤ a ∨ S a) → DrV B1 h0 h1 → Q (ts.map OT.d) m B1 → G (ts.map OT.v) h1) :
    ∀ (k i : Nat) (ts : List OT) (m B : Nat) (h : AHp), i + k = its.length → OksL h 3 ts → (2 ≤ m → (lsL ts).Nodup ∧ ∀ a ∈ lsL ts, h0.n ≤ a) → (∀ a ∈ lsL ts, h0.n ≤ a ∨ S a) → DrV B h0 h → wComp wt ((its.drop i).map fun x => x.map OT.d) (ts.map OT.d) m B Q → okR (compGo it turn k i (ts.map OT.v) h) G X
  | 0, i, ts, m, B, h, e, ok, l, al, d, q => by
    have : its.drop i = [] := List.drop_eq_nil_of_le (by omega)
    rw [this] at q
    simp only [List.map_nil, wComp] at q
    unfold compGo
    rw [if_pos (hi.2 h fun t ht => (ok0 t ht).dr d).1]
    exact he ts m B h ok l al d q
  | k + 1, i, ts, m, B, h, e, ok, l, al, d, q => by
    have hlt : i < its.length := by omega
    rw [List.drop_eq_getElem_cons hlt] at q
    simp only [List.map_cons, wComp] at q
    have h1 := (hi.2 h fun t ht => (ok0 t ht).dr d).2 i hlt
    unfold compGo
    simp only [h1.1, okR_bind]
    refine okR_noex (okR_mono (ht i hlt B h _ d q) fun o h2 z => ?_)
    cases o with
    | none =>
      obtain ⟨B2, d2, z⟩ := z
      exact comp_ok hi ok0 ht Q he k (i + 1) ts m B2 h2 (by omega) (ok.dr d2) l al (d.trans d2) z
    | some v =>
      obtain ⟨t, u, B2, e1, ok2, l2, al2, d2, z1, z2⟩ := z
      subst e1
      show okR (if Nat.blt (ts.map OT.v).length 16777216 = true then compGo it turn k (i + 1) (ts.map OT.v ++ [t.v]) h2 else .no) G X
      rw [if_pos (show Nat.blt (ts.map OT.v).length 16777216 = true from Nat.ble_eq_true_of_le (by have := z1; simp at this ⊢; omega))]
      have e2 : ts.map OT.v ++ [t.v] = (ts ++ [t]).map OT.v := by simp
      have e3 : ts.map OT.d ++ [t.d] = (ts ++ [t]).map OT.d := by simp
      rw [e2]
      rw [e3] at z2
      refine comp_ok hi ok0 ht Q he k (i + 1) (ts ++ [t]) (min m u) B2 h2 (by omega) (.app (ok.dr d2) (.one ok2)) (fun hm => ?_) (fun a ha => ?_) (d.trans d2) z2
      · have l' := l (by omega)
        have l2' := l2.2 (by omega)
        rw [lsL_app, List.nodup_append]
        refine ⟨⟨l'.1, by simpa [lsL] using l2'.1, fun a ha b hb => ?_⟩, fun a ha => ?_⟩
        · have h3 := lsL_lt ok a ha
          have h4 := l2'.2 b (by simpa [lsL] using hb)
          omega
        · rw [List.mem_append] at ha
          rcases ha with z | z
          · exact l'.2 a z
          · exact Nat.le_trans d.2.1 (l2'.2 a (by simpa [lsL] using z))
      · rw [lsL_app, List.mem_append] at ha
        rcases ha with z | z
        · exact al a z
        · exact (al2 a (by simpa [lsL] using z)).imp (Nat.le_trans d.2.1) id
theorem noWX_no {S : Nat → Prop} {h : AHp} : ∀ c fs h', XP S h noWX c fs h' → noX c fs h' := fun c fs h' ⟨_, _, _, _, _, z⟩ => z.elim
theorem ItT.seq {t : OT} (n : t.isN = true) : ItT t.it (t.kids.map fun x => [x]) [t] := by
  refine ⟨by simp [OT.it_len], fun h' ok => ⟨fin_ot (ok t (by simp)) n, fun i hi => ?_⟩⟩
  have hi' : i < t.kids.length := by simpa using hi
  have ok := ok t (by simp)
  refine ⟨by rw [item_ot ok n hi']; simp, fun x hx => ?_⟩
  simp at hx
  subst hx
  exact ⟨ok.kid (List.getElem_mem _), fun a ha => by simp [lsL]; exact (kid_sub (List.getElem_mem hi')).subset ha⟩
theorem rngD_map : ∀ (n : Nat) (lo : Int), rngD lo n = ((List.range n).map fun (i : Nat) => PyData.int (lo + (i : Int)))
  | 0, _ => rfl
  | n + 1, lo => by
    rw [List.range_succ_eq_map, rngD, rngD_map n (lo + 1)]
    simp [Function.comp_def]
    intro a _; omega
theorem ItT.rng {n : Nat} {lo : Int} : ItT (.vs (rngL lo n)) ((List.range n).map fun (i : Nat) => [OT.sc (.int (lo + (i : Int)))]) [] := by
  refine ⟨by simp [It.len, rngL_l'], fun h' _ => ⟨rfl, fun i hi => ?_⟩⟩
  have hi' : i < n := by simpa using hi
  refine ⟨by rw [rng_item hi']; simp [OT.v], fun x hx => ?_⟩
  simp at hx
  subst hx
  exact ⟨by simp [OT.Ok, avOk], by simp [OT.ls]⟩
theorem enumD_map : ∀ (xs : List PyData) (s : Int), enumD s xs = (List.range xs.length).map fun (i : Nat) => [PyData.int (s + (i : Int)), xs.getD i .none]
  | [], _ => rfl
  | x :: r, s => by
    rw [List.length_cons, List.range_succ_eq_map, enumD, enumD_map r (s + 1)]
    simp [Function.comp_def]
    intro a _; omega
theorem ItT.en {t : OT} {s : Int} (n : t.isN = true) : ItT (.en s t.it) ((List.range t.kids.length).map fun (i : Nat) => [OT.sc (.int (s + (i : Int))), t.kids.getD i (.sc .non)]) [t] := by
  refine ⟨by simp [It.len, OT.it_len], fun h' ok => ⟨by simp only [It.fin]; exact fin_ot (ok t (by simp)) n, fun i hi => ?_⟩⟩
  have hi' : i < t.kids.length := by simpa using hi
  have ok := ok t (by simp)
  refine ⟨by simp only [It.item, one_ot ok n hi']; simp [hi']; rfl, fun x hx => ?_⟩
  simp [hi'] at hx
  rcases hx with e | e
  · subst e; exact ⟨by simp [OT.Ok, avOk], by simp [OT.ls]⟩
  · subst e
    exact ⟨ok.kid (List.getElem_mem _), fun a ha => by simp [lsL]; exact (kid_sub (List.getElem_mem hi')).subset ha⟩
theorem ItT.zp {t u : OT} (n : t.isN = true) (n' : u.isN = true) : ItT (.zp t.it u.it) ((t.kids.zip u.kids).map fun p => [p.1, p.2]) [t, u] := by
  refine ⟨by simp [It.len, OT.it_len], fun h' ok => ⟨by simp only [It.fin, fin_ot (ok t (by simp)) n, fin_ot (ok u (by simp)) n']; rfl, fun i hi => ?_⟩⟩
  have hi1 : i < t.kids.length := by simp at hi; omega
  have hi2 : i < u.kids.length := by simp at hi; omega
  have ok1 := ok t (by simp)
  have ok2 := ok u (by simp)
  refine ⟨by simp only [It.item, one_ot ok1 n hi1, one_ot ok2 n' hi2]; simp, fun x hx => ?_⟩
  simp at hx
  rcases hx with e | e
  · subst e
    exact ⟨ok1.kid (List.getElem_mem _), fun a ha => by simp [lsL]; exact .inl ((kid_sub (List.getElem_mem hi1)).subset ha)⟩
  · subst e
    exact ⟨ok2.kid (List.getElem_mem _), fun a ha => by simp [lsL]; exact .inr ((kid_sub (List.getElem_mem hi2)).subset ha)⟩
end AH

set_option Elab.async false
set_option linter.all false
set_option maxRecDepth 100000
set_option maxHeartbeats 1000000
/-! VW7: what is told of data holds of the heap: expressions. -/
namespace AH
open PySem L2
theorem optQ_ex {α : Type} {o : Option α} {Q : α → Prop} (h : optQ o Q) : ∃ x, o = some x ∧ Q x := by
  cases o with
  | none => exact h.elim
  | some x => exact ⟨x, rfl, h⟩
theorem permVA_map {cs : List (Option OT)} : ∀ {perm : List Nat} {as : List VA}, permVA (cs.map argD) perm = some as → ∃ cs' : List (Option OT), permA (cs.map argV) perm = some (cs'.map argV) ∧ as = cs'.map argD ∧ ∀ t, some t ∈ cs' → some t ∈ cs
  | [], as, e => by
    simp only [permVA, Option.some.injEq] at e
    subst e
    exact ⟨[], rfl, rfl, by simp⟩
  | i :: r, as, e => by
    simp only [permVA] at e
    split at e
    · next v ws e1 e2 =>
      cases e
      obtain ⟨cs', f1, f2, f3⟩ := permVA_map e2
      rw [List.getElem?_map, Option.map_eq_some_iff] at e1
      obtain ⟨c, g1, g2⟩ := e1
      refine ⟨c :: cs', ?_, by simp [g2, f2], ?_⟩
      · have : (cs.map argV)[i]? = some (argV c) := by rw [List.getElem?_map, g1]; rfl
        simp only [permA, this, f1, List.map_cons]
      · intro t ht
        rcases List.mem_cons.1 ht with z | z
        · rw [z]; exact List.mem_of_getElem? g1
        · exact f3 t z
    · cases e
theorem avOk_flat {v : AV} (h : avOk v = true) : flatA v = true := by cases v <;> first | rfl | (simp [avOk] at h)
theorem strMap {σv : VSl} {σ : Sl} {h : AHp} {ts : Nat → OT} (r : RelE σv σ h ts) {e : E} (q : strmAt e σv = true) : ∃ i, e = .var i ∧ σ[i]? = some (some (.ref 2)) := by
  cases e <;> simp only [strmAt] at q <;> first | (cases q; done) | skip
  next i =>
    refine ⟨i, rfl, ?_⟩
    have := r.2 i
    unfold R1 at this
    split at q
    · next e => simp only [e] at this; exact this
    · cases q
/-- a field's trees -/
theorem fldOf_map {ts : List (Nat × OT)} {f : Nat} {z : PyData} : handD.fldV f (ts.map fun p => (p.1, p.2.d)) = some z → ∃ t, fldOf f (ts.map fun p => (p.1, p.2.v)) = some t.v ∧ t.d = z ∧ ∃ p ∈ ts, p.2 = t := by
  induction ts with
  | nil => intro e; simp [handD.fldV] at e
  | cons p r ih =>
    intro e
    simp only [List.map_cons, handD.fldV] at e
    simp only [List.map_cons, fldOf]
    split at e
    · next c =>
      simp only [Option.some.injEq] at e
      rw [if_pos c]
      exact ⟨p.2, rfl, e, p, by simp, rfl⟩
    · next c =>
      obtain ⟨t, a, b, q, hq, g⟩ := ih e
      rw [if_neg c]
      exact ⟨t, a, b, q, by simp [hq], g⟩
theorem str_ok {x : Str} (h : strOkD x = true) : avOk (.str x) = true := h
theorem hand_ok {S : Nat → Prop} {h h1 : AHp} {B : Nat} {told : Str} {hs : List (Nat × Str × HK)} {c : Nat} {fl : List Nat} {ts : List (Nat × OT)} {z : PyData} {Q : WQ} {X : QX} (hw : hs.all (fun p => strOkD p.2.1) = true) (d : DrV B h h1) (ok : ∀ p ∈ ts, p.2.Ok h1 3 ∧ ∀ a ∈ p.2.ls, h.n ≤ a ∨ S a) (e : handD told hs c fl (ts.map fun p => (p.1, p.2.d)) = some z) (q : Q z (lv0 z) B) : okR (handX hs c fl (ts.map fun p => (p.1, p.2.v)) h1) (RP S h Q) X := by
  have n3 := d.1.n3
  unfold handD at e
  unfold handX
  have ea : (ts.map fun p => (p.1, p.2.v)).all (fun p => fl.contains p.1) = (ts.map fun p => (p.1, p.2.d)).all (fun p => fl.contains p.1) := by simp [List.all_map, Function.comp_def]
  rw [ea]
  split at e
  · next c1 =>
    rw [if_pos c1]
    have fin : ∀ (us : List OT), OksL h1 3 us → us.length < 16777216 → (∀ a ∈ lsL us, h.n ≤ a ∨ S a) → z = .tuple (us.map OT.d) → RP S h Q (.ref h1.n) (h1.add (.tup (us.map OT.v))) := by
      intro us ou ol al ez
      subst ez
      refine (OPs.tup (S := fun a => h.n ≤ a ∨ S a) n3 ou ol al fun e => ?_).rp (fun a x => x) d q
      unfold lv0 at e
      split at e
      · next z => exact nolsL_ls ou (by rw [dsL_map]; simpa [nols] using z)
      · omega
    have wok : ∀ {n : Nat} {w : Str} {k : HK}, hs.find? (fun q => q.1 == c) = some (n, w, k) → (OT.sc (.str w)).Ok h1 3 := by
      intro n w k e
      have := List.all_eq_true.1 hw _ (List.mem_of_find?_eq_some e)
      simp only [OT.Ok]
      exact this
    split at e
    · next n w f e2 =>
      rw [Option.map_eq_some_iff] at e
      obtain ⟨y, e3, e4⟩ := e
      obtain ⟨t, f1, f2, p, hp, f3⟩ := fldOf_map e3
      simp only [e2, f1]
      subst f3
      exact fin [.sc (.str w), p.2] (by simp [OksL, wok e2, (ok p hp).1]) (by simp) (fun a ha => (ok p hp).2 a (by simpa [lsL, OT.ls] using ha)) (by rw [← e4, ← f2]; rfl)
    · next n w f g e2 =>
      split at e
      · next y1 y2 e3 e3' =>
        obtain ⟨t, f1, f2, p, hp, f3⟩ := fldOf_map e3
        obtain ⟨t', f1', f2', p', hp', f3'⟩ := fldOf_map e3'
        simp only [e2, f1, f1', okR_ok]
        subst f3
        subst f3'
        have T := mk_tup (h := h1) (ts := [p.2, p'.2]) (lo := 3) (by simp [OksL, (ok p hp).1, (ok p' hp').1]) n3 (by simp)
        have k2 : Keep noA h1 (h1.add (.tup [p.2.v, p'.2.v])) := .add
        simp only [List.map_cons, List.map_nil] at T
        generalize hh : h1.add (.tup [p.2.v, p'.2.v]) = h2 at T k2
        have n2 : h2.n = h1.n + 1 := by rw [← hh]; rfl
        cases e
        have T2 := mk_tup (h := h2) (ts := [.sc (.str w), .tup h1.n [p.2, p'.2]]) (lo := 3) (by simp [OksL, (wok e2).keep k2 noA_lt, T]) (by omega) (by simp)
        refine ⟨_, lv0 (.tuple [.str w, .tuple [y1, y2]]), B, by rw [← n2]; rfl, T2, ?_, ?_, (d.noA k2).noA .add, ?_⟩
        · have := Lv.lv0 (n := h.n) T2
          simpa [OT.d, dsL, avD, f2, f2'] using this
        · intro a ha
          simp [OT.ls, lsL] at ha
          rcases ha with z | z
          · exact (ok p hp).2 a z
          · exact (ok p' hp').2 a z
        · simpa [OT.d, dsL, avD, f2, f2'] using q
      · cases e
    · next n w e2 =>
      try simp only [e2]
      cases e
      exact fin [.sc (.str w), .sc .non] (by simp [OksL, wok e2]; simp [OT.Ok, avOk]) (by simp) (by simp [lsL, OT.ls]) rfl
    · cases e
  · cases e
end AH

set_option Elab.async false
set_option linter.all false
set_option maxRecDepth 100000
set_option maxHeartbeats 4000000
/-! VW8: what is told of data holds of the heap: expressions. -/
namespace AH
open PySem L2
theorem liftX {S : Nat → Prop} {h h1 : AHp} {B : Nat} {X : WX} (d : DrV B h h1) : ∀ c fs h', XP S h1 X c fs h' → XP S h X c fs h' := fun _ _ _ q => q.lift d
theorem int_of {t : OT} {h : AHp} {lo : Nat} (ok : t.Ok h lo) {P : Int → Prop} (q : match t.d with | .int i => P i | _ => False) : ∃ i, t = .sc (.int i) ∧ P i := by
  split at q
  · next i e => exact ⟨i, (sc_inv ok).1 _ e, q⟩
  · exact q.elim
theorem optD_ok {t : OT} {h : AHp} {lo : Nat} (ok : t.Ok h lo) {e : E} {l : Option Int} (q : optD e t.d = some l) : optP e t.v = some l := by
  have i1 := sc_inv ok
  unfold optD at q
  split at q
  · next a => rw [i1.2.2.2 a]; cases q; rfl
  · cases q
  · next i hx a =>
    rw [i1.1 _ a]
    cases q
    unfold optP
    rename_i x3 x2 x1
    cases x3 <;> first | rfl | (exfalso; exact hx rfl)
  · cases q
mutual
theorem sE (V : VC) (hc : SoundC V) : ∀ (e : E) {σv : VSl} {σ : Sl} {h : AHp} {ts : Nat → OT} {B : Nat} {Q : WQ} {X : WX} {S : Nat → Prop}, RelE σv σ h ts → StrOk h 2 1 B → Al (vsE e) σv ts S → wE V e σv B Q X → okR (evE V.C e σ h) (RP S h Q) (XP S h X)
  | .var i, σv, σ, h, ts, B, Q, X, S, r, st, al, q => by
    simp only [wE] at q
    have r1 := r.2 i
    unfold R1 at r1
    split at q
    · next d u e =>
      simp only [e] at r1
      obtain ⟨e1, ok, e2⟩ := r1
      simp only [evE, e1, okR_ok]
      subst e2
      exact ⟨ts i, _, B, rfl, ok, .lv0 ok, fun a ha => .inr (al i (by simp [vsE]) _ _ e a ha), .rfl' st, q⟩
    · exact q.elim
  | .int i, σv, σ, h, ts, B, Q, X, S, r, st, al, q => RP.sc rfl (.rfl' st) q
  | .bl b, σv, σ, h, ts, B, Q, X, S, r, st, al, q => RP.sc rfl (.rfl' st) q
  | .non, σv, σ, h, ts, B, Q, X, S, r, st, al, q => RP.sc rfl (.rfl' st) q
  | .str x, σv, σ, h, ts, B, Q, X, S, r, st, al, q => RP.sc (str_ok q.1) (.rfl' st) q.2
  | .bin o a b, σv, σ, h, ts, B, Q, X, S, r, st, al, q => by
    simp only [evE]
    simp only [vsE] at al
    refine bindRP (sE V hc a r st al.l q) (fun _ _ _ q => q) fun t u B1 h1 ok l al1 d q => ?_
    refine bindRP (sE V hc b (r.dr d) d.1 al.r q) (liftX d) fun t2 u2 B2 h2 ok2 l2 al2 d2 q => ?_
    obtain ⟨z, e, q⟩ := optQ_ex q
    have ok' := ok.dr d2
    exact okR_mono (op_ot (S := fun a => h.n ≤ a ∨ S a) d2.1.n3 ok' ok2 al1 (al_up d.2.1 al2) ⟨ls_lt ok', ls_lt ok2⟩ e) fun v h3 z => z.rp (fun _ x => x) (d.trans d2) q
  | .neg a, σv, σ, h, ts, B, Q, X, S, r, st, al, q => by
    simp only [evE]
    simp only [vsE] at al
    refine bindRP (sE V hc a r st al q) (fun _ _ _ q => q) fun t u B1 h1 ok l al1 d q => ?_
    have q' := int_of ok q
    clear q
    obtain ⟨i, e, q⟩ := q'
    subst e
    exact RP.sc rfl d q
  | .not a, σv, σ, h, ts, B, Q, X, S, r, st, al, q => by
    simp only [evE, truthR]
    simp only [vsE] at al
    rw [okR_bind]
    refine bindRP (sE V hc a r st al q) (fun _ _ _ q => q) fun t u B1 h1 ok l al1 d q => ?_
    obtain ⟨b, e, q⟩ := optQ_ex q
    simp only [truth_ot ok e]
    exact RP.sc rfl d q
  | .and a b, σv, σ, h, ts, B, Q, X, S, r, st, al, q => by
    simp only [evE]
    simp only [vsE] at al
    refine bindRP (sE V hc a r st al.l q) (fun _ _ _ q => q) fun t u B1 h1 ok l al1 d q => ?_
    obtain ⟨c, e, q⟩ := optQ_ex q
    simp only [truth_ot ok e]
    cases c with
    | true => exact okR_mono2 (sE V hc b (r.dr d) d.1 al.r q) (fun _ _ q => q.lift d) (liftX d)
    | false => exact ⟨t, u, B1, rfl, ok, l, al1, d, q⟩
  | .or a b, σv, σ, h, ts, B, Q, X, S, r, st, al, q => by
    simp only [evE]
    simp only [vsE] at al
    refine bindRP (sE V hc a r st al.l q) (fun _ _ _ q => q) fun t u B1 h1 ok l al1 d q => ?_
    obtain ⟨c, e, q⟩ := optQ_ex q
    simp only [truth_ot ok e]
    cases c with
    | false => exact okR_mono2 (sE V hc b (r.dr d) d.1 al.r q) (fun _ _ q => q.lift d) (liftX d)
    | true => exact ⟨t, u, B1, rfl, ok, l, al1, d, q⟩
  | .cmp o a b, σv, σ, h, ts, B, Q, X, S, r, st, al, q => by
    simp only [evE]
    simp only [vsE] at al
    refine bindRP (sE V hc a r st al.l q) (fun _ _ _ q => q) fun t u B1 h1 ok l al1 d q => ?_
    refine bindRP (sE V hc b (r.dr d) d.1 al.r q) (liftX d) fun t2 u2 B2 h2 ok2 l2 al2 d2 q => ?_
    obtain ⟨z, e, q⟩ := optQ_ex q
    rw [cmp_ot (ok.dr d2) ok2 e]
    exact RP.sc rfl (d.trans d2) q
  | .cmp2 o o2 a b c, σv, σ, h, ts, B, Q, X, S, r, st, al, q => by
    simp only [evE]
    simp only [vsE] at al
    refine bindRP (sE V hc a r st al.l q) (fun _ _ _ q => q) fun t u B1 h1 ok l al1 d q => ?_
    refine bindRP (sE V hc b (r.dr d) d.1 al.r.l q) (liftX d) fun t2 u2 B2 h2 ok2 l2 al2 d2 q => ?_
    obtain ⟨z, e, q⟩ := optQ_ex q
    rw [cmp_ot (ok.dr d2) ok2 e]
    simp only [Rs.bind]
    have d12 := d.trans d2
    cases z with
    | false => exact RP.sc rfl d12 q
    | true =>
      refine bindRP (sE V hc c (r.dr d12) d2.1 al.r.r q) (liftX d12) fun t3 u3 B3 h3 ok3 l3 al3 d3 q => ?_
      obtain ⟨z, e, q⟩ := optQ_ex q
      rw [cmp_ot (ok2.dr d3) ok3 e]
      exact RP.sc rfl (d12.trans d3) q
  | .ite c a b, σv, σ, h, ts, B, Q, X, S, r, st, al, q => by
    simp only [evE, truthR]
    simp only [vsE] at al
    rw [okR_bind]
    refine bindRP (sE V hc c r st al.l q) (fun _ _ _ q => q) fun t u B1 h1 ok l al1 d q => ?_
    obtain ⟨z, e, q⟩ := optQ_ex q
    simp only [truth_ot ok e, okR_ok]
    cases z with
    | true => exact okR_mono2 (sE V hc a (r.dr d) d.1 al.r.l q) (fun _ _ q => q.lift d) (liftX d)
    | false => exact okR_mono2 (sE V hc b (r.dr d) d.1 al.r.r q) (fun _ _ q => q.lift d) (liftX d)
  | .lst es, σv, σ, h, ts, B, Q, X, S, r, st, al, q => by
    simp only [evE]
    simp only [vsE] at al
    refine bindRPL (sL V hc es r st al q) (fun _ _ _ q => q) fun us m B1 h1 ok l al1 d q => ?_
    obtain ⟨hl, q⟩ := q
    simp only [List.length_map] at hl
    rw [if_pos (by rw [List.length_map]; exact isz_ok (by omega))]
    refine ⟨.lst h1.n us, lvL m, B1, rfl, mk_lst ok d.1.n3 hl, ⟨fun _ a xs e => ?_, fun h2 => ?_⟩, fun a ha => ?_, d.noA .add, by simpa [OT.d, dsL_map] using q⟩
    · cases e
      exact ⟨d.2.1, fun z => by have := lsL_lt ok _ z; omega⟩
    · have hm : m = 2 := by unfold lvL at h2; split at h2 <;> omega
      obtain ⟨l1, l2⟩ := l (by omega)
      simp only [OT.ls, List.nodup_cons, List.mem_cons]
      exact ⟨⟨fun z => by have := lsL_lt ok _ z; omega, l1⟩, fun a ha => ha.elim (fun e => by subst e; exact d.2.1) (l2 a)⟩
    · simp only [OT.ls, List.mem_cons] at ha
      exact ha.elim (fun e => .inl (by subst e; exact d.2.1)) (al1 a)
  | .tup es, σv, σ, h, ts, B, Q, X, S, r, st, al, q => by
    simp only [evE]
    simp only [vsE] at al
    refine bindRPL (sL V hc es r st al q) (fun _ _ _ q => q) fun us m B1 h1 ok l al1 d q => ?_
    obtain ⟨hl, q⟩ := q
    simp only [List.length_map] at hl
    rw [if_pos (by rw [List.length_map]; exact isz_ok (by omega))]
    refine ⟨.tup h1.n us, lvT m, B1, rfl, mk_tup ok d.1.n3 hl, ⟨fun _ a xs e => (by cases e), fun h2 => ?_⟩, fun a ha => al1 a (by simpa [OT.ls] using ha), d.noA .add, by simpa [OT.d, dsL_map] using q⟩
    have hm : m = 2 := by unfold lvT at h2; split at h2 <;> omega
    simpa [OT.ls] using l (by omega)
  | .lc e g it own, σv, σ, h, ts, B, Q, X, S, r, st, al, q => by
    simp only [evE]
    simp only [vsE] at al
    rw [okR_bind]
    refine okR_mono2 (sI V hc it r st al.l q) (fun t h1 ⟨its, E0, B1, i1, ok0, d, q⟩ => ?_) (fun _ _ _ q => q)
    have rw1 := (r.dr d).wipe own
    have hal : ∀ i (hi : i < its.length), ∀ x ∈ its[i], ∀ a ∈ x.ls, h.n ≤ a ∨ S a := fun i hi x hx a ha => by
      obtain ⟨y, hy, hy'⟩ := lsL_mem.1 (((i1.2 h1 fun t ht => (ok0 t ht).1).2 i hi).2 x hx |>.2 a ha)
      exact (ok0 y hy).2 a hy'
    rw [okR_bind, i1.1]
    refine comp_ok (S := fun a => h.n ≤ a ∨ S a) (h0 := h1) (X := XP S h X) i1 (fun t ht => (ok0 t ht).1) ?_ (fun ds m B4 => ds.length < 16777216 ∧ Q (.list ds) (lvL m) B4) ?_ its.length 0 [] 2 B1 h1 (by simp) (by simp [OksL]) (fun _ => ⟨by simp [lsL], by simp [lsL]⟩) (by simp [lsL]) (.rfl' d.1) (by simpa using q)
    · intro i hi B2 h2 K d2 q2
      obtain ⟨σ1v, e1, q2⟩ := optQ_ex q2
      have okx := (i1.2 h2 fun t ht => (ok0 t ht).1.dr d2).2 i hi
      obtain ⟨σ1, ts1, f1, r1, b1⟩ := bindV_ok (T := fun a => h.n ≤ a ∨ S a) (rw1.1.dr d2) (σv0 := wipeV σv own) (ts0 := ts) (fun i d u e => .inl ⟨e, rfl⟩) (fun x hx => ⟨(okx.2 x hx).1, hal i hi x hx⟩) e1
      simp only [f1]
      rw [okR_bind]
      refine okR_mono2 (sE V hc e r1 d2.1 (S := fun a => h.n ≤ a ∨ S a) (fun j hj d u ej a ha => ?_) q2) (fun v h3 z => z) noWX_no
      rcases b1 j d u ej with ⟨z1, z2⟩ | ⟨_, z⟩
      · rw [z2] at ha; exact .inr (al.r j hj _ _ (rw1.2 _ _ _ z1) a ha)
      · exact z a ha
    · intro us m B4 h4 ok l al4 d4 ⟨hl, q⟩
      simp only [List.length_map] at hl
      have d14 := d.trans d4
      refine ⟨.lst h4.n us, lvL m, B4, rfl, mk_lst ok d4.1.n3 hl, ⟨fun _ a xs e => ?_, fun h2 => ?_⟩, fun a ha => ?_, d14.noA .add, by simpa [OT.d, dsL_map] using q⟩
      · cases e
        exact ⟨d14.2.1, fun z => by have := lsL_lt ok _ z; omega⟩
      · have hm : m = 2 := by unfold lvL at h2; split at h2 <;> omega
        obtain ⟨l1, l2⟩ := l (by omega)
        simp only [OT.ls, List.nodup_cons, List.mem_cons]
        exact ⟨⟨fun z => by have := lsL_lt ok _ z; omega, l1⟩, fun a ha => ha.elim (fun e => by subst e; exact d14.2.1) (fun ha => Nat.le_trans d.2.1 (l2 a ha))⟩
      · simp only [OT.ls, List.mem_cons] at ha
        exact ha.elim (fun e => .inl (by subst e; exact d14.2.1)) (fun ha => (al4 a ha).elim (fun e => .inl (Nat.le_trans d.2.1 e)) id)
  | .lcf e g it c own, σv, σ, h, ts, B, Q, X, S, r, st, al, q => by
    simp only [evE]
    simp only [vsE] at al
    rw [okR_bind]
    refine okR_mono2 (sI V hc it r st al.l q) (fun t h1 ⟨its, E0, B1, i1, ok0, d, q⟩ => ?_) (fun _ _ _ q => q)
    have rw1 := (r.dr d).wipe own
    have hal : ∀ i (hi : i < its.length), ∀ x ∈ its[i], ∀ a ∈ x.ls, h.n ≤ a ∨ S a := fun i hi x hx a ha => by
      obtain ⟨y, hy, hy'⟩ := lsL_mem.1 (((i1.2 h1 fun t ht => (ok0 t ht).1).2 i hi).2 x hx |>.2 a ha)
      exact (ok0 y hy).2 a hy'
    rw [okR_bind, i1.1]
    refine comp_ok (S := fun a => h.n ≤ a ∨ S a) (h0 := h1) (X := XP S h X) i1 (fun t ht => (ok0 t ht).1) ?_ (fun ds m B4 => ds.length < 16777216 ∧ Q (.list ds) (lvL m) B4) ?_ its.length 0 [] 2 B1 h1 (by simp) (by simp [OksL]) (fun _ => ⟨by simp [lsL], by simp [lsL]⟩) (by simp [lsL]) (.rfl' d.1) (by simpa using q)
    · intro i hi B2 h2 K d2 q2
      obtain ⟨σ1v, e1, q2⟩ := optQ_ex q2
      have okx := (i1.2 h2 fun t ht => (ok0 t ht).1.dr d2).2 i hi
      obtain ⟨σ1, ts1, f1, r1, b1⟩ := bindV_ok (T := fun a => h.n ≤ a ∨ S a) (rw1.1.dr d2) (σv0 := wipeV σv own) (ts0 := ts) (fun i d u e => .inl ⟨e, rfl⟩) (fun x hx => ⟨(okx.2 x hx).1, hal i hi x hx⟩) e1
      simp only [f1, truthR]
      rw [okR_bind, okR_bind]
      have hb : ∀ vs, (∀ j, j ∈ vs → j ∈ vsE c ++ vsE e) → Al vs σ1v ts1 (fun a => h.n ≤ a ∨ S a) := fun vs hv j hj d u ej a ha => by
        rcases b1 j d u ej with ⟨z1, z2⟩ | ⟨_, z⟩
        · rw [z2] at ha; exact .inr (al.r j (hv j hj) _ _ (rw1.2 _ _ _ z1) a ha)
        · exact z a ha
      refine okR_mono2 (sE V hc c r1 d2.1 (hb _ fun j hj => by simp [hj]) q2) (fun v h3 ⟨t, u, B3, ev, ok3, l3, al3, d3, q3⟩ => ?_) noWX_no
      subst ev
      obtain ⟨z, e3, q3⟩ := optQ_ex q3
      simp only [truth_ot ok3 e3, okR_ok]
      cases z with
      | true =>
        simp only [if_true] at q3 ⊢
        rw [okR_bind]
        exact okR_mono2 (sE V hc e (r1.dr d3) d3.1 (hb _ fun j hj => by simp [hj]) q3) (fun v h4 z => z.lift d3) noWX_no
      | false => exact ⟨B3, d3, q3⟩
    · intro us m B4 h4 ok l al4 d4 ⟨hl, q⟩
      simp only [List.length_map] at hl
      have d14 := d.trans d4
      refine ⟨.lst h4.n us, lvL m, B4, rfl, mk_lst ok d4.1.n3 hl, ⟨fun _ a xs e => ?_, fun h2 => ?_⟩, fun a ha => ?_, d14.noA .add, by simpa [OT.d, dsL_map] using q⟩
      · cases e
        exact ⟨d14.2.1, fun z => by have := lsL_lt ok _ z; omega⟩
      · have hm : m = 2 := by unfold lvL at h2; split at h2 <;> omega
        obtain ⟨l1, l2⟩ := l (by omega)
        simp only [OT.ls, List.nodup_cons, List.mem_cons]
        exact ⟨⟨fun z => by have := lsL_lt ok _ z; omega, l1⟩, fun a ha => ha.elim (fun e => by subst e; exact d14.2.1) (fun ha => Nat.le_trans d.2.1 (l2 a ha))⟩
      · simp only [OT.ls, List.mem_cons] at ha
        exact ha.elim (fun e => .inl (by subst e; exact d14.2.1)) (fun ha => (al4 a ha).elim (fun e => .inl (Nat.le_trans d.2.1 e)) id)
  | .sub a i, σv, σ, h, ts, B, Q, X, S, r, st, al, q => by
    simp only [evE]
    simp only [vsE] at al
    refine bindRP (sE V hc a r st al.l q) (fun _ _ _ q => q) fun t u B1 h1 ok l al1 d q => ?_
    refine bindRP (sE V hc i (r.dr d) d.1 al.r q) (liftX d) fun t2 u2 B2 h2 ok2 l2 al2 d2 q => ?_
    obtain ⟨z, e, q⟩ := optQ_ex q
    refine okR_mono (ix_ot (ok.dr d2) ok2 e) fun v h3 ⟨e3, w, ev, okw, ed, sub⟩ => ?_
    subst e3
    subst ev
    subst ed
    refine ⟨w, lsub u w.d, B2, rfl, okw, ?_, fun a ha => al1 a (sub.subset ha), d.trans d2, q⟩
    unfold lsub
    split
    · next hu =>
      have l' := l.2 (by omega)
      refine ⟨fun _ a xs ew => ?_, fun _ => ⟨l'.1.sublist sub, fun a ha => l'.2 a (sub.subset ha)⟩⟩
      have nd := l'.1.sublist sub
      subst ew
      simp only [OT.ls, List.nodup_cons] at nd
      exact ⟨l'.2 a (sub.subset (by simp [OT.ls])), nd.1⟩
    · exact .lv0 okw
  | .sl a lo hi, σv, σ, h, ts, B, Q, X, S, r, st, al, q => by
    simp only [evE]
    simp only [vsE] at al
    refine bindRP (sE V hc a r st al.l q) (fun _ _ _ q => q) fun t u B1 h1 ok l al1 d q => ?_
    rw [okR_bind]
    refine bindRP (sE V hc lo (r.dr d) d.1 al.r.l q) (liftX d) fun t2 u2 B2 h2 ok2 l2 al2 d2 q => ?_
    obtain ⟨k1, e1, q⟩ := optQ_ex q
    simp only [optD_ok ok2 e1, okR_ok]
    have d12 := d.trans d2
    rw [okR_bind]
    refine bindRP (sE V hc hi (r.dr d12) d2.1 al.r.r q) (liftX d12) fun t3 u3 B3 h3 ok3 l3 al3 d3 q => ?_
    obtain ⟨k2, e2, q⟩ := optQ_ex q
    simp only [optD_ok ok3 e2, okR_ok]
    obtain ⟨z, e3, q⟩ := optQ_ex q
    have okt := (ok.dr d2).dr d3
    exact okR_mono (sl_ot (S := fun a => h.n ≤ a ∨ S a) d3.1.n3 okt al1 (ls_lt okt) e3) fun v h4 z => z.rp (fun _ x => x) (d12.trans d3) q
  | .call f es, σv, σ, h, ts, B, Q, X, S, r, st, al, q => by
    simp only [evE]
    simp only [vsE] at al
    rw [okR_bind]
    refine okR_mono2 (sA V hc es r st al q) (fun vs h1 ⟨cs, B1, ev, ok, d, q⟩ => ?_) (fun _ _ _ q => q)
    subst ev
    refine okR_mono2 (hc f cs B1 Q X h1 (fun a => h.n ≤ a ∨ S a) (fun t ht => ok t ht) d.1 q) (fun v h2 z => ?_) (fun c fs h2 z => ?_)
    · obtain ⟨t, u, B2, e, ok2, l2, al2, d2, q2⟩ := z
      exact ⟨t, u, B2, e, ok2, l2.mono d.2.1, fun a ha => (al2 a ha).elim (fun e => .inl (Nat.le_trans d.2.1 e)) id, d.trans d2, q2⟩
    · obtain ⟨us, B2, e, ok2, d2, q2⟩ := z
      exact ⟨us, B2, e, fun p hp => ⟨(ok2 p hp).1, fun a ha => ((ok2 p hp).2 a ha).elim (fun e => .inl (Nat.le_trans d.2.1 e)) id⟩, d.trans d2, q2⟩
  | .callk f es perm, σv, σ, h, ts, B, Q, X, S, r, st, al, q => by
    simp only [evE]
    simp only [vsE] at al
    rw [okR_bind]
    refine okR_mono2 (sA V hc es r st al q) (fun vs h1 ⟨cs, B1, ev, ok, d, q⟩ => ?_) (fun _ _ _ q => q)
    subst ev
    obtain ⟨as, e, q⟩ := optQ_ex q
    obtain ⟨cs', f1, f2, f3⟩ := permVA_map e
    simp only [f1]
    subst f2
    refine okR_mono2 (hc f cs' B1 Q X h1 (fun a => h.n ≤ a ∨ S a) (fun t ht => ok t (f3 t ht)) d.1 q) (fun v h2 z => ?_) (fun c fs h2 z => ?_)
    · obtain ⟨t, u, B2, e, ok2, l2, al2, d2, q2⟩ := z
      exact ⟨t, u, B2, e, ok2, l2.mono d.2.1, fun a ha => (al2 a ha).elim (fun e => .inl (Nat.le_trans d.2.1 e)) id, d.trans d2, q2⟩
    · obtain ⟨us, B2, e, ok2, d2, q2⟩ := z
      exact ⟨us, B2, e, fun p hp => ⟨(ok2 p hp).1, fun a ha => ((ok2 p hp).2 a ha).elim (fun e => .inl (Nat.le_trans d.2.1 e)) id⟩, d.trans d2, q2⟩
  | .blt b es, σv, σ, h, ts, B, Q, X, S, r, st, al, q => by
    simp only [evE]
    simp only [vsE] at al
    refine bindRPL (sL V hc es r st al q) (fun _ _ _ q => q) fun us m B1 h1 ok l al1 d q => ?_
    obtain ⟨z, e, q⟩ := optQ_ex q
    exact okR_mono (blt_ot (S := fun a => h.n ≤ a ∨ S a) ok e) fun v h2 z => z.rp (fun _ x => x) d q
  | .isa e o tys, σv, σ, h, ts, B, Q, X, S, r, st, al, q => by
    simp only [evE]
    simp only [vsE] at al
    refine bindRP (sE V hc e r st al q) (fun _ _ _ q => q) fun t u B1 h1 ok l al1 d q => ?_
    rw [ty_ot ok]
    exact RP.sc rfl d q
  | .lstE e, σv, σ, h, ts, B, Q, X, S, r, st, al, q => by
    simp only [evE]
    simp only [vsE] at al
    refine bindRP (sE V hc e r st al q) (fun _ _ _ q => q) fun t u B1 h1 ok l al1 d q => ?_
    obtain ⟨z, e, q⟩ := optQ_ex q
    exact okR_mono (lstE_ot (S := fun a => h.n ≤ a ∨ S a) d.1.n3 ok al1 (ls_lt ok) e) fun v h2 z => z.rp (fun _ x => x) d q
  | .tupE e, σv, σ, h, ts, B, Q, X, S, r, st, al, q => by
    simp only [evE]
    simp only [vsE] at al
    refine bindRP (sE V hc e r st al q) (fun _ _ _ q => q) fun t u B1 h1 ok l al1 d q => ?_
    obtain ⟨z, e, q⟩ := optQ_ex q
    exact okR_mono (tupE_ot (S := fun a => h.n ≤ a ∨ S a) d.1.n3 ok al1 e) fun v h2 z => z.rp (fun _ x => x) d q
  | .lstR1 e, σv, σ, h, ts, B, Q, X, S, r, st, al, q => by
    simp only [evE]
    simp only [vsE] at al
    refine bindRP (sE V hc e r st al q) (fun _ _ _ q => q) fun t u B1 h1 ok l al1 d q => ?_
    have q' := int_of ok q
    clear q
    obtain ⟨j, e, ⟨c1, c2⟩, q⟩ := q'
    subst e
    simp only [OT.v, c1, isz_ok (show j.toNat ≤ 16777216 by omega), Bool.and_self, if_true, okR_ok]
    have e1 : rngL 0 j.toNat = ((List.range j.toNat).map fun (i : Nat) => OT.sc (.int (0 + (i : Int)))).map OT.v := by
      refine List.ext_getElem? fun i => ?_
      by_cases hi : i < j.toNat
      · rw [rngL_g' _ _ _ hi]; simp [hi, OT.v]
      · rw [List.getElem?_eq_none (by rw [rngL_l']; omega), List.getElem?_eq_none (by simp; omega)]
    have e2 : rngD 0 j.toNat = ((List.range j.toNat).map fun (i : Nat) => OT.sc (.int (0 + (i : Int)))).map OT.d := by rw [rngD_map]; simp [OT.d, avD, Function.comp_def]
    have e3 : lsL ((List.range j.toNat).map fun (i : Nat) => OT.sc (.int (0 + (i : Int)))) = [] := by
      refine List.eq_nil_iff_forall_not_mem.2 fun a ha => ?_
      obtain ⟨x, h1, h2⟩ := lsL_mem.1 ha
      simp at h1
      obtain ⟨i, _, e⟩ := h1
      subst e
      simp [OT.ls] at h2
    rw [e1]
    rw [e2] at q
    refine (OPs.lst (S := fun _ => False) (l := 2) d.1.n3 (OksL_iff.2 fun x hx => ?_) (by simp; omega) (by rw [e3]; simp) (by rw [e3]; simp) fun _ => e3).rp (fun _ x => x.elim) d q
    simp at hx
    obtain ⟨i, _, e⟩ := hx
    subst e
    simp [OT.Ok, avOk]
  | .lstR2 a b, σv, σ, h, ts, B, Q, X, S, r, st, al, q => by
    simp only [evE]
    simp only [vsE] at al
    refine bindRP (sE V hc a r st al.l q) (fun _ _ _ q => q) fun t u B1 h1 ok l al1 d q => ?_
    refine bindRP (sE V hc b (r.dr d) d.1 al.r q) (liftX d) fun t2 u2 B2 h2 ok2 l2 al2 d2 q => ?_
    split at q
    · next i j a1 a2 =>
      obtain ⟨⟨c0, c1, c2⟩, q⟩ := q
      rw [(sc_inv ok).1 _ a1, (sc_inv ok2).1 _ a2]
      simp only [OT.v, c0, c1, isz_ok (show (j - i).toNat ≤ 16777216 by omega), Bool.and_self, if_true, okR_ok]
      have e1 : rngL i (j - i).toNat = ((List.range (j - i).toNat).map fun (k : Nat) => OT.sc (.int (i + (k : Int)))).map OT.v := by
        refine List.ext_getElem? fun k => ?_
        by_cases hi : k < (j - i).toNat
        · rw [rngL_g' _ _ _ hi]; simp [hi, OT.v]
        · rw [List.getElem?_eq_none (by rw [rngL_l']; omega), List.getElem?_eq_none (by simp; omega)]
      have e2 : rngD i (j - i).toNat = ((List.range (j - i).toNat).map fun (k : Nat) => OT.sc (.int (i + (k : Int)))).map OT.d := by rw [rngD_map]; simp [OT.d, avD, Function.comp_def]
      have e3 : lsL ((List.range (j - i).toNat).map fun (k : Nat) => OT.sc (.int (i + (k : Int)))) = [] := by
        refine List.eq_nil_iff_forall_not_mem.2 fun a ha => ?_
        obtain ⟨x, h1, h2⟩ := lsL_mem.1 ha
        simp at h1
        obtain ⟨k, _, e⟩ := h1
        subst e
        simp [OT.ls] at h2
      rw [e1]
      rw [e2] at q
      refine (OPs.lst (S := fun _ => False) (l := 2) d2.1.n3 (OksL_iff.2 fun x hx => ?_) (by simp; omega) (by rw [e3]; simp) (by rw [e3]; simp) fun _ => e3).rp (fun _ x => x.elim) (d.trans d2) q
      simp at hx
      obtain ⟨i, _, e⟩ := hx
      subst e
      simp [OT.Ok, avOk]
    · exact q.elim
  | .met f e, σv, σ, h, ts, B, Q, X, S, r, st, al, q => by
    simp only [evE]
    simp only [vsE] at al
    simp only [wE] at q
    split at q
    · next told hs e1 =>
      obtain ⟨c1, c2, q⟩ := q
      try simp only [e1]
      have := sE V hc e r st al q
      generalize evE V.C e σ h = rr at this
      cases rr with
      | no => exact this.elim
      | ok v h1 =>
        obtain ⟨t, u, B1, e, ok, l, al1, d, q⟩ := this
        subst e
        have T := mk_tup (h := h1) (ts := [.sc (.str told), t]) (lo := 3) (by simp [OksL, ok]; simp only [OT.Ok]; exact c1) d.1.n3 (by simp)
        refine ⟨.tup h1.n [.sc (.str told), t], lvT u, B1, rfl, T, ⟨fun _ a xs e => (by cases e), fun h2 => ?_⟩, fun a ha => al1 a (by simpa [OT.ls, lsL] using ha), d.noA .add, q⟩
        have hm : u = 2 := by unfold lvT at h2; split at h2 <;> omega
        simpa [OT.ls, lsL] using l.2 (by omega)
      | ex c fs h1 =>
        obtain ⟨us, B1, e, ok, d, q⟩ := this
        subst e
        obtain ⟨fl, e2, q⟩ := optQ_ex q
        obtain ⟨z, e3, q⟩ := optQ_ex q
        simp only [handA, e2]
        exact hand_ok c2 d ok e3 q
    · exact q.elim
  | .iso e, σv, σ, h, ts, B, Q, X, S, r, st, al, q => by
    simp only [wE] at q
    obtain ⟨v, h1, e1, c, q⟩ := q
    simp only [evE, scal_eq r, e1, avOk_flat c, if_true]
    exact RP.sc c (.rfl' st) q
  | .glo _, σv, σ, h, ts, B, Q, X, S, r, st, al, q => q.elim
  | .dct es, σv, σ, h, ts, B, Q, X, S, r, st, al, q => by
    cases es with
    | nil =>
      have e : evE V.C (.dct .nil) σ h = .ok (.ref h.n) (h.add (.dct [])) := by
        simp only [evE, evL, Rs.bind, pairUp]; rfl
      rw [e, okR_ok]
      exact ⟨.edct h.n, 2, B, rfl, mk_edct st.n3, .nil (by simp [OT.ls]), by simp [OT.ls], (DrV.rfl' st).noA .add, q⟩
    | _ => exact q.elim
  | .lc2 _ _ _ _ _ _ _, σv, σ, h, ts, B, Q, X, S, r, st, al, q => q.elim
  | .dc _ _ _ _ _, σv, σ, h, ts, B, Q, X, S, r, st, al, q => q.elim
  | .lstIt _, σv, σ, h, ts, B, Q, X, S, r, st, al, q => q.elim
  | .dctE _, σv, σ, h, ts, B, Q, X, S, r, st, al, q => q.elim
  | .bad, σv, σ, h, ts, B, Q, X, S, r, st, al, q => q.elim
  | .lock _ _, σv, σ, h, ts, B, Q, X, S, r, st, al, q => q.elim
  | .meth _ _ _, σv, σ, h, ts, B, Q, X, S, r, st, al, q => q.elim
theorem sL (V : VC) (hc : SoundC V) : ∀ (es : L) {σv : VSl} {σ : Sl} {h : AHp} {ts : Nat → OT} {B : Nat} {Q : List PyData → Nat → Nat → Prop} {X : WX} {S : Nat → Prop}, RelE σv σ h ts → StrOk h 2 1 B → Al (vsL es) σv ts S → wL V es σv B Q X → okR (evL V.C es σ h) (RPL S h Q) (XP S h X)
  | .nil, σv, σ, h, ts, B, Q, X, S, r, st, al, q => ⟨[], 2, B, rfl, by simp [OksL], fun _ => ⟨by simp [lsL], by simp [lsL]⟩, by simp [lsL], .rfl' st, q⟩
  | .cons e rr, σv, σ, h, ts, B, Q, X, S, r, st, al, q => by
    simp only [evL]
    simp only [vsL] at al
    refine bindRP (sE V hc e r st al.l q) (fun _ _ _ q => q) fun t u B1 h1 ok l al1 d q => ?_
    refine bindRPL (sL V hc rr (r.dr d) d.1 al.r q) (liftX d) fun us m B2 h2 ok2 l2 al2 d2 q => ?_
    refine ⟨t :: us, min u m, B2, rfl, ?_, fun hm => ?_, fun a ha => ?_, d.trans d2, by simpa using q⟩
    · simp only [OksL]; exact ⟨ok.dr d2, ok2⟩
    · have l1' := l.2 (by omega)
      have l2' := l2 (by omega)
      simp only [lsL, List.nodup_append, List.mem_append]
      refine ⟨⟨l1'.1, l2'.1, fun a ha b hb => ?_⟩, fun a ha => ha.elim (l1'.2 a) fun ha => Nat.le_trans d.2.1 (l2'.2 a ha)⟩
      have h3 := ls_lt ok a ha
      have h4 := l2'.2 b hb
      omega
    · simp only [lsL, List.mem_append] at ha
      exact ha.elim (al1 a) fun ha => al_up d.2.1 al2 a ha
  | .star e rr, σv, σ, h, ts, B, Q, X, S, r, st, al, q => by
    simp only [evL]
    simp only [vsL] at al
    refine bindRP (sE V hc e r st al.l q) (fun _ _ _ q => q) fun t u B1 h1 ok l al1 d q => ?_
    obtain ⟨xs, e1, q⟩ := optQ_ex q
    obtain ⟨n, e2⟩ := sqD_inv e1
    subst e2
    have e3 : seqOf h1 t.v = some (t.kids.map OT.v) := by
      obtain ⟨a, ev, g | g⟩ := ok.vals n
      · rw [ev]; simp only [seqOf, g]
      · rw [ev]; simp only [seqOf, g]
    simp only [e3]
    have okk : OksL h1 3 t.kids := OksL_iff.2 fun x hx => ok.kid hx
    refine bindRPL (sL V hc rr (r.dr d) d.1 al.r q) (liftX d) fun us m B2 h2 ok2 l2 al2 d2 q => ?_
    refine ⟨t.kids ++ us, min (lvK (t.kids.map OT.d)) m, B2, by simp, .app (okk.dr d2) ok2, fun hm => ?_, fun a ha => ?_, d.trans d2, by simpa using q⟩
    · have l1' := lvK_nil okk (by omega)
      have l2' := l2 (by omega)
      rw [lsL_app, l1', List.nil_append]
      exact ⟨l2'.1, fun a ha => Nat.le_trans d.2.1 (l2'.2 a ha)⟩
    · rw [lsL_app, List.mem_append] at ha
      exact ha.elim (fun ha => al1 a (kids_ls.subset ha)) fun ha => al_up d.2.1 al2 a ha
theorem sA (V : VC) (hc : SoundC V) : ∀ (es : L) {σv : VSl} {σ : Sl} {h : AHp} {ts : Nat → OT} {B : Nat} {Q : List VA → Nat → Prop} {X : WX} {S : Nat → Prop}, RelE σv σ h ts → StrOk h 2 1 B → Al (vsL es) σv ts S → wA V es σv B Q X → okR (evL V.C es σ h) (RPA S h Q) (XP S h X)
  | .nil, σv, σ, h, ts, B, Q, X, S, r, st, al, q => ⟨[], B, rfl, by simp, .rfl' st, q⟩
  | .cons e rr, σv, σ, h, ts, B, Q, X, S, r, st, al, q => by
    simp only [evL]
    simp only [vsL] at al
    simp only [wA] at q
    split at q
    · next e1 =>
      obtain ⟨i, e2, e3⟩ := strMap r e1
      subst e2
      have : evE V.C (.var i) σ h = .ok (.ref 2) h := by simp only [evE, e3]
      rw [this]
      show okR ((evL V.C rr σ h).bind fun vs h2 => .ok (.ref 2 :: vs) h2) _ _
      rw [okR_bind]
      refine okR_mono2 (sA V hc rr r st al.r q) (fun vs h2 ⟨cs, B2, ev, ok, d, q⟩ => ?_) (fun _ _ _ q => q)
      subst ev
      exact ⟨none :: cs, B2, rfl, fun t ht => ok t (by simpa using ht), d, q⟩
    · refine bindRP (sE V hc e r st al.l q) (fun _ _ _ q => q) fun t u B1 h1 ok l al1 d q => ?_
      rw [okR_bind]
      refine okR_mono2 (sA V hc rr (r.dr d) d.1 al.r q) (fun vs h2 ⟨cs, B2, ev, ok2, d2, q⟩ => ?_) (liftX d)
      subst ev
      refine ⟨some t :: cs, B2, rfl, fun x hx => ?_, d.trans d2, q⟩
      rcases List.mem_cons.1 hx with z | z
      · cases z; exact ⟨ok.dr d2, al1⟩
      · exact ⟨(ok2 x z).1, al_up d.2.1 (ok2 x z).2⟩
  | .star _ _, σv, σ, h, ts, B, Q, X, S, r, st, al, q => q.elim
theorem sI (V : VC) (hc : SoundC V) : ∀ (it : I) {σv : VSl} {σ : Sl} {h : AHp} {ts : Nat → OT} {B : Nat} {Q : List (List PyData) → Nat → Prop} {X : WX} {S : Nat → Prop}, RelE σv σ h ts → StrOk h 2 1 B → Al (vsI it) σv ts S → wI V it σv B Q X → okR (evI V.C it σ h) (RPI S h Q) (XP S h X)
  | .seq e, σv, σ, h, ts, B, Q, X, S, r, st, al, q => by
    simp only [evI]
    simp only [vsI] at al
    refine bindRP (sE V hc e r st al q) (fun _ _ _ q => q) fun t u B1 h1 ok l al1 d q => ?_
    obtain ⟨xs, e1, q⟩ := optQ_ex q
    by_cases n : t.isN = true
    · have e2 : xs = t.kids.map OT.d := by
        cases t with
        | sc v => simp [OT.isN] at n
        | lst a xs => simp only [OT.d, seqD, dsL_map, Option.some.injEq] at e1; exact e1.symm
        | tup a xs => simp only [OT.d, seqD, dsL_map, Option.some.injEq] at e1; exact e1.symm
        | edct a => simp [OT.isN] at n
      subst e2
      simp only [seqIt_ot ok n, okR_ok]
      exact ⟨_, [t], B1, ItT.seq n, fun x hx => by simp at hx; subst hx; exact ⟨ok, al1⟩, d, by simpa [Function.comp_def] using q⟩
    · cases t with
      | sc v =>
        cases v with
        | str x =>
          simp only [OT.d, avD, seqD, Option.some.injEq] at e1
          subst e1
          have ok' := ok
          simp only [OT.Ok, avOk, Bool.and_eq_true] at ok'
          simp only [OT.v, seqIt, okR_ok]
          refine ⟨(x.cps.toList.map fun c => [OT.sc (.str ⟨#[c]⟩)]), [], B1, ⟨by simp [It.len], fun h' _ => ⟨rfl, fun i hi => ?_⟩⟩, by simp, d, by simpa [Function.comp_def, OT.d, avD] using q⟩
          have hi' : i < x.cps.toList.length := by simpa using hi
          refine ⟨?_, fun y hy => ?_⟩
          · have hi2 : i < x.cps.size := by simpa using hi'
            simp [It.item, It.one, hi2, OT.v]
          · simp at hy
            subst hy
            refine ⟨?_, by simp [OT.ls]⟩
            have h3 := (List.all_eq_true.1 ok'.1) _ (List.getElem_mem hi')
            simp only [Array.getElem_toList] at h3
            simp only [OT.Ok, avOk, Bool.and_eq_true]
            have h1 : isz (Str.length ⟨#[x.cps[i]'(by simpa using hi')]⟩) = true := rfl
            exact ⟨by simpa using h3, h1⟩
        | _ => simp [OT.d, avD, seqD] at e1
      | lst a xs => simp [OT.isN] at n
      | tup a xs => simp [OT.isN] at n
      | edct a => simp [OT.d, seqD] at e1
  | .rng1 a, σv, σ, h, ts, B, Q, X, S, r, st, al, q => by
    simp only [evI]
    simp only [vsI] at al
    refine bindRP (sE V hc a r st al q) (fun _ _ _ q => q) fun t u B1 h1 ok l al1 d q => ?_
    have q' := int_of ok q
    clear q
    obtain ⟨j, e, c1, q⟩ := q'
    subst e
    simp only [OT.v, c1, if_true, okR_ok]
    exact ⟨_, [], B1, ItT.rng, by simp, d, by rw [rngD_map] at q; simpa [Function.comp_def, OT.d, avD] using q⟩
  | .rng2 a b, σv, σ, h, ts, B, Q, X, S, r, st, al, q => by
    simp only [evI]
    simp only [vsI] at al
    refine bindRP (sE V hc a r st al.l q) (fun _ _ _ q => q) fun t u B1 h1 ok l al1 d q => ?_
    refine bindRP (sE V hc b (r.dr d) d.1 al.r q) (liftX d) fun t2 u2 B2 h2 ok2 l2 al2 d2 q => ?_
    split at q
    · next i j a1 a2 =>
      obtain ⟨⟨c0, c1⟩, q⟩ := q
      rw [(sc_inv ok).1 _ a1, (sc_inv ok2).1 _ a2]
      simp only [OT.v, c0, c1, Bool.and_self, if_true, okR_ok]
      exact ⟨_, [], B2, ItT.rng, by simp, d.trans d2, by rw [rngD_map] at q; simpa [Function.comp_def, OT.d, avD] using q⟩
    · exact q.elim
  | .enum e, σv, σ, h, ts, B, Q, X, S, r, st, al, q => by
    simp only [evI]
    simp only [vsI] at al
    refine bindRP (sE V hc e r st al q) (fun _ _ _ q => q) fun t u B1 h1 ok l al1 d q => ?_
    obtain ⟨xs, e1, q⟩ := optQ_ex q
    obtain ⟨n, e2⟩ := sqD_inv e1
    subst e2
    simp only [sqIt_ot ok n, okR_ok]
    refine ⟨_, [t], B1, ItT.en n, fun x hx => by simp at hx; subst hx; exact ⟨ok, al1⟩, d, ?_⟩
    rw [enumD_map] at q
    simp only [List.map_map, List.length_map] at q ⊢
    refine cast (congrArg (fun z => Q z B1) (List.map_congr_left fun i hi => ?_)) q
    have hi' : i < t.kids.length := by simpa using hi
    simp [OT.d, avD, hi']
  | .enumS e s, σv, σ, h, ts, B, Q, X, S, r, st, al, q => by
    simp only [evI]
    simp only [vsI] at al
    refine bindRP (sE V hc e r st al.l q) (fun _ _ _ q => q) fun t u B1 h1 ok l al1 d q => ?_
    refine bindRP (sE V hc s (r.dr d) d.1 al.r q) (liftX d) fun t2 u2 B2 h2 ok2 l2 al2 d2 q => ?_
    have q' := int_of ok2 q
    clear q
    obtain ⟨i0, e0, c, q⟩ := q'
    subst e0
    obtain ⟨xs, e1, q⟩ := optQ_ex q
    obtain ⟨n, e2⟩ := sqD_inv e1
    subst e2
    have ok' := ok.dr d2
    simp only [OT.v] at *
    have e4 := sqIt_ot ok' n
    simp only [OT.v] at e4
    simp only [e4, c, if_true, okR_ok]
    refine ⟨_, [t], B2, ItT.en n, fun x hx => by simp at hx; subst hx; exact ⟨ok', al1⟩, d.trans d2, ?_⟩
    rw [enumD_map] at q
    simp only [List.map_map, List.length_map] at q ⊢
    refine cast (congrArg (fun z => Q z B2) (List.map_congr_left fun i hi => ?_)) q
    have hi' : i < t.kids.length := by simpa using hi
    simp [OT.d, avD, hi']
  | .zip a b, σv, σ, h, ts, B, Q, X, S, r, st, al, q => by
    simp only [evI]
    simp only [vsI] at al
    refine bindRP (sE V hc a r st al.l q) (fun _ _ _ q => q) fun t u B1 h1 ok l al1 d q => ?_
    refine bindRP (sE V hc b (r.dr d) d.1 al.r q) (liftX d) fun t2 u2 B2 h2 ok2 l2 al2 d2 q => ?_
    obtain ⟨xs, e1, q⟩ := optQ_ex q
    have ok' := ok.dr d2
    have key : t.isN = true → t2.isN = true → t.isL = t2.isL → xs = ((t.kids.map OT.d).zip (t2.kids.map OT.d)).map (fun p => [p.1, p.2]) → okR (match zpIt h2 t.v t2.v with | some t => Rs.ok t h2 | none => .no) (RPI S h Q) (XP S h X) := by
      intro n n' e e2
      simp only [zpIt_ot ok' ok2 n n' e, okR_ok]
      refine ⟨_, [t, t2], B2, ItT.zp n n', fun x hx => ?_, d.trans d2, ?_⟩
      · simp at hx
        rcases hx with e | e
        · subst e; exact ⟨ok', al1⟩
        · subst e; exact ⟨ok2, al_up d.2.1 al2⟩
      · subst e2
        rw [List.zip_map] at q
        simpa [Function.comp_def] using q
    unfold zipD at e1
    split at e1
    · next xs ys a1 a2 =>
      obtain ⟨p, us, f1, f2⟩ := lst_inv a1
      subst f1
      subst f2
      obtain ⟨p', us', f1, f2⟩ := lst_inv a2
      subst f1
      subst f2
      cases e1
      exact key rfl rfl rfl rfl
    · next xs ys a1 a2 =>
      obtain ⟨p, us, f1, f2⟩ := tup_inv a1
      subst f1
      subst f2
      obtain ⟨p', us', f1, f2⟩ := tup_inv a2
      subst f1
      subst f2
      cases e1
      exact key rfl rfl rfl rfl
    · cases e1
  | .rng3 _ _ _, σv, σ, h, ts, B, Q, X, S, r, st, al, q => q.elim
  | .keys _, σv, σ, h, ts, B, Q, X, S, r, st, al, q => q.elim
  | .items _, σv, σ, h, ts, B, Q, X, S, r, st, al, q => q.elim
  | .vals _, σv, σ, h, ts, B, Q, X, S, r, st, al, q => q.elim
  | .bad, σv, σ, h, ts, B, Q, X, S, r, st, al, q => q.elim
end
end AH

set_option Elab.async false
set_option linter.all false
set_option maxRecDepth 100000
set_option maxHeartbeats 400000
/-! VW9: statements, told of data alone. -/
namespace AH
open PySem L2
def clr1 (σ : VSl) (i : Nat) : VSl := match σ[i]? with
  | some (.v d _) => σ.set i (.v d 0)
  | _ => σ
def clr (σ : VSl) : List Nat → VSl
  | [] => σ
  | i :: r => clr (clr1 σ i) r
/-- behind a value that is kept: what it may share is nobody's own -/
def esc (σ : VSl) (vs : List Nat) (u : Nat) : VSl := if u = 2 then σ else clr σ vs
/-- a part of a slot's value -/
abbrev Pth := Nat × List Nat
def dvl : List Nat → List Nat → Bool
  | a :: p, b :: q => a != b || dvl p q
  | _, _ => false
def dvg (p q : Pth) : Bool := p.1 != q.1 || dvl p.2 q.2
/-- parts that have nothing in common -/
def pok (mv mw : List Pth) : Bool := mv.all fun p => mw.all fun q => dvg p q
@[simp] theorem pok_nil {mw : List Pth} : pok [] mw = true := rfl
@[simp] theorem pok_nil2 {mv : List Pth} : pok mv [] = true := by simp [pok]
@[simp] theorem pok_cons {p : Pth} {mv : List Pth} {q : Pth} {mw : List Pth} : pok (p :: mv) (q :: mw) = ((dvg p q && mw.all (dvg p)) && pok mv (q :: mw)) := by simp [pok]
@[simp] theorem dvg_v {i j : Nat} {p q : List Nat} : dvg (i, p) (j, q) = (i != j || dvl p q) := rfl
@[simp] theorem dvl_c {i j : Nat} {p q : List Nat} : dvl (i :: p) (j :: q) = (i != j || dvl p q) := rfl
@[simp] def wP (σ : VSl) : E → Option (Pth × PyData × Nat)
  | .var i => match σ[i]? with
    | some (.v d u) => some ((i, []), d, u)
    | _ => none
  | .sub e (.int k) => match wP σ e with
    | some (p, d, u) => if 0 ≤ k then (match sqD d with
      | some xs => (xs[k.toNat]?).map fun y => ((p.1, p.2 ++ [k.toNat]), y, u)
      | none => none) else none
    | none => none
  | _ => none
/-- a value with what is moved into it -/
def wV (V : VC) : E → VSl → Nat → (PyData → Nat → List Pth → Nat → Prop) → WX → Prop
  | .var i, σ, B, Q, _ => match σ[i]? with
    | some (.v d u) => if nols d = true then Q d 2 [] B else Q d u [(i, [])] B
    | _ => False
  | .sub a i, σ, B, Q, X => match wP σ (.sub a i) with
    | some (p, d, u) => if nols d = true then Q d 2 [] B else Q d (if u = 2 then 2 else 0) [p] B
    | none => wE V (.sub a i) σ B (fun d u B1 => Q d u [] B1) X
  | .tup es, σ, B, Q, X => wVL V es σ B (fun ds m mv B1 => ds.length < 16777216 ∧ Q (.tuple ds) (lvT m) mv B1) X
  | .lst es, σ, B, Q, X => wVL V es σ B (fun ds m mv B1 => ds.length < 16777216 ∧ Q (.list ds) (lvL m) mv B1) X
  | .bin .add a b, σ, B, Q, X => wV V a σ B (fun x u mv B1 => wV V b σ B1 (fun y w mw B2 => match x, y with
    | .list xs, .list ys => xs.length + ys.length < 16777216 ∧ Q (.list (xs ++ ys)) (if u = 2 ∧ w = 2 ∧ pok mv mw = true then 2 else lvK (xs ++ ys)) (mv ++ mw) B2
    | .tuple xs, .tuple ys => xs.length + ys.length < 16777216 ∧ Q (.tuple (xs ++ ys)) (if u = 2 ∧ w = 2 ∧ pok mv mw = true then 2 else lv0 (.tuple (xs ++ ys))) (mv ++ mw) B2
    | x, y => optQ (opD .add x y) fun z => Q z.1 z.2 [] B2) X) X
  | .ite c a b, σ, B, Q, X => wE V c σ B (fun x _ B1 => optQ (truthD x) fun t => if t = true then wV V a σ B1 Q X else wV V b σ B1 Q X) X
  | e, σ, B, Q, X => wE V e σ B (fun d u B1 => Q d u [] B1) X
where wVL (V : VC) : L → VSl → Nat → (List PyData → Nat → List Pth → Nat → Prop) → WX → Prop
  | .nil, _, B, Q, _ => Q [] 2 [] B
  | .cons e r, σ, B, Q, X => wV V e σ B (fun x u mv B1 => wVL V r σ B1 (fun ds m mw B2 => Q (x :: ds) (if pok mv mw = true then min u m else 0) (mv ++ mw) B2) X) X
  | .star _ _, _, _, _, _ => False
/-- values kept one behind another -/
def wU (V : VC) : L → VSl → Nat → (List (PyData × Nat) → VSl → Nat → Prop) → WX → Prop
  | .nil, σ, B, Q, _ => Q [] σ B
  | .cons e r, σ, B, Q, X => wE V e σ B (fun d u B1 => wU V r (esc σ (vsE e) u) B1 (fun ds σ2 B2 => Q ((d, u) :: ds) σ2 B2) X) X
  | .star _ _, _, _, _, _ => False
def setV (σ : VSl) : List Nat → List (PyData × Nat) → VSl
  | i :: is, x :: xs => setV (σ.set i (.v x.1 x.2)) is xs
  | _, _ => σ
def kill (σ : VSl) : List Pth → VSl
  | [] => σ
  | i :: r => kill (σ.set i.1 .no) r
/-- what spoils its argument -/
def isAp : E → Bool
  | .call 28 (.cons _ .nil) => true
  | .not a => isAp a
  | .and a b => isAp a || isAp b
  | .or a b => isAp a || isAp b
  | _ => false
structure VX extends VC where
  ap : PyData → Prop
/-- a condition -/
def wC (V : VX) (bo : Bool) : E → VSl → Nat → (Bool → VSl → Nat → Prop) → WX → Prop
  | .not a, σ, B, Q, X => wC V false a σ B (fun t σ1 B1 => Q (!t) σ1 B1) X
  | .and a b, σ, B, Q, X => wC V bo a σ B (fun t σ1 B1 => if t = true then wC V bo b σ1 B1 Q X else Q false σ1 B1) X
  | .or a b, σ, B, Q, X => wC V bo a σ B (fun t σ1 B1 => if t = true then Q true σ1 B1 else wC V bo b σ1 B1 Q X) X
  | .call 28 (.cons e .nil), σ, B, Q, X => wV V.toVC e σ B (fun d u mv B1 => u = 2 ∧ V.ap d ∧ Q true (kill σ mv) B1) X
  | e, σ, B, Q, X => wE V.toVC e σ B (fun d _ B1 => if bo = true then (match d with | .bool t => Q t σ B1 | _ => False) else optQ (truthD d) fun t => Q t σ B1) X
def wFor (turn : List PyData → VSl → Nat → (VSl → Nat → Prop) → Prop) : List (List PyData) → VSl → Nat → (VSl → Nat → Prop) → Prop
  | [], σ, B, N => N σ B
  | x :: r, σ, B, N => turn x σ B fun σ1 B1 => wFor turn r σ1 B1 N
def wWhl (c : VSl → Nat → (Bool → VSl → Nat → Prop) → Prop) (turn : VSl → Nat → (VSl → Nat → Prop) → Prop) : Nat → VSl → Nat → (VSl → Nat → Prop) → Prop
  | 0, _, _, _ => False
  | n + 1, σ, B, N => c σ B fun t σ1 B1 => if t = true then turn σ1 B1 fun σ2 B2 => wWhl c turn n σ2 B2 N else N σ1 B1
/-- one's own list at a slot -/
def ownL (σ : VSl) (i : Nat) (Q : List PyData → Nat → Prop) : Prop := match σ[i]? with
  | some (.v (.list xs) u) => 1 ≤ u ∧ Q xs u
  | _ => False
/-- names alone -/
@[simp] def nmsG : Gs → Option (List Nat)
  | .nil => some []
  | .cons (.nm i) r => (nmsG r).map (i :: ·)
  | _ => none
def ownT (gs : Gs) (d : PyData) (u : Nat) : Option (List Nat × List PyData) := if u = 2 then match nmsG gs, sqD d with
  | some is, some xs => if xs.length = is.length then some (is, xs) else none
  | _, _ => none else none
@[simp] theorem ownT_t {gs : Gs} {xs : List PyData} : ownT gs (.tuple xs) 2 = (match nmsG gs with | some is => if xs.length = is.length then some (is, xs) else none | none => none) := by unfold ownT; rw [if_pos rfl]; cases nmsG gs <;> rfl
@[simp] theorem ownT_l {gs : Gs} {xs : List PyData} : ownT gs (.list xs) 2 = (match nmsG gs with | some is => if xs.length = is.length then some (is, xs) else none | none => none) := by unfold ownT; rw [if_pos rfl]; cases nmsG gs <;> rfl
@[simp] theorem ownT_0 {gs : Gs} {d : PyData} : ownT gs d 0 = none := rfl
@[simp] theorem ownT_1 {gs : Gs} {d : PyData} : ownT gs d 1 = none := rfl
@[simp] theorem setV_nil {σ : VSl} {xs : List (PyData × Nat)} : setV σ [] xs = σ := by cases xs <;> rfl
@[simp] theorem setV_cons {σ : VSl} {i : Nat} {is : List Nat} {x : PyData × Nat} {xs : List (PyData × Nat)} : setV σ (i :: is) (x :: xs) = setV (σ.set i (.v x.1 x.2)) is xs := rfl
def lvM (u w : Nat) : Nat := if w = 2 then u else 1
mutual
def wS (V : VX) : S → VSl → Nat → (VSl → Nat → Prop) → WQ → WX → Prop
  | .asg i e, σ, B, N, _, X => wE V.toVC e σ B (fun d u B1 => N ((esc σ (vsE e) u).set i (.v d u)) B1) X
  | .asgT gs e, σ, B, N, _, X => wE V.toVC e σ B (fun d u B1 => match ownT gs d u with
    | some (is, xs) => N (setV σ is (xs.map fun x => (x, 2))) B1
    | none => optQ (bindG1V (.tp gs) d (esc σ (vsE e) u)) fun σ1 => N σ1 B1) X
  | .asgP is es, σ, B, N, _, X => wU V.toVC es σ B (fun ds σ1 B1 => ds.length = is.length ∧ N (setV σ1 is ds) B1) X
  | .setix (.var i) ix e, σ, B, N, _, X => wE V.toVC e σ B (fun d u B1 => ownL (esc σ (vsE e) u) i fun xs w => wE V.toVC ix (esc σ (vsE e) u) B1 (fun y _ B2 => match y with
    | .int j => optQ (ixN xs.length j) fun k => N ((esc σ (vsE e) u).set i (.v (.list (xs.set k d)) (lvM w u))) B2
    | _ => False) X) X
  | .augIx (.var i) ix op e, σ, B, N, _, X => ownL σ i fun xs w => wE V.toVC ix σ B (fun y _ B1 => match y with
    | .int j => optQ (ixN xs.length j) fun k => match xs[k]? with
      | some (.int x) => wE V.toVC e σ B1 (fun z _ B2 => match z with
        | .int m => match op with
          | .add => N (σ.set i (.v (.list (xs.set k (.int (x + m)))) w)) B2
          | .sub => N (σ.set i (.v (.list (xs.set k (.int (x - m)))) w)) B2
          | _ => False
        | _ => False) X
      | _ => False
    | _ => False) X
  | .augN i op e, σ, B, N, _, X => match σ[i]? with
    | some (.v (.int x) _) => wE V.toVC e σ B (fun z _ B1 => match z with
      | .int m => match op with
        | .add => N (σ.set i (.v (.int (x + m)) 2)) B1
        | .sub => N (σ.set i (.v (.int (x - m)) 2)) B1
        | _ => False
      | _ => False) X
    | _ => False
  | .ex (.meth .append (.var i) (.cons e .nil)), σ, B, N, _, X => ownL σ i fun _ _ => wE V.toVC e σ B (fun d u B1 => ownL (esc σ (vsE e) u) i fun xs w => xs.length < 16777215 ∧ N ((esc σ (vsE e) u).set i (.v (.list (xs ++ [d])) (lvM w u))) B1) X
  | .ex (.meth .extend (.var i) (.cons e .nil)), σ, B, N, _, X => ownL σ i fun _ _ => wE V.toVC e σ B (fun d u B1 => match d with
    | .list ys => ownL (esc σ (vsE e) (if nolsL ys then 2 else u)) i fun xs w => xs.length + ys.length < 16777216 ∧ N ((esc σ (vsE e) (if nolsL ys then 2 else u)).set i (.v (.list (xs ++ ys)) (lvM w (if nolsL ys then 2 else u)))) B1
    | _ => False) X
  | .ex (.call f es), σ, B, N, _, X => wE V.toVC (.call f es) σ B (fun _ _ B1 => N σ B1) X
  | .ite c a b, σ, B, N, R, X => wC V false c σ B (fun t σ1 B1 => if t = true then wB V a σ1 B1 N R X else wB V b σ1 B1 N R X) X
  | .forS g it b, σ, B, N, R, X => wI V.toVC it σ B (fun its B1 => wFor (fun vs σ1 B2 K => optQ (bindV g vs σ1) fun σ2 => wB V b σ2 B2 K R X) its (clr σ (vsI it)) B1 N) X
  | .whl c b, σ, B, N, R, X => wWhl (fun σ1 B1 K => wC V false c σ1 B1 K X) (fun σ1 B1 K => wB V b σ1 B1 K R X) V.C.F σ B N
  | .ret e, σ, B, _, R, X => if isAp e = true then wC V true e σ B (fun t _ B1 => R (.bool t) 2 B1) X else wV V.toVC e σ B (fun d u _ B1 => R d u B1) X
  | .retN, _, B, _, R, _ => R .none 2 B
  | .raise c es, σ, B, _, _, X => wL V.toVC es σ B (fun ds _ B1 => optQ (V.C.P.cls c) fun fs => ds.length = fs.length ∧ X c (fs.zip ds).reverse B1) X
  | .pass, σ, B, N, _, _ => N σ B
  | _, _, _, _, _, _ => False
def wB (V : VX) : B → VSl → Nat → (VSl → Nat → Prop) → WQ → WX → Prop
  | .nil, σ, B, N, _, _ => N σ B
  | .cons s r, σ, B, N, R, X => wS V s σ B (fun σ1 B1 => wB V r σ1 B1 N R X) R X
  | .iso b, σ, B, _, R, _ => ∃ v h, evB V.C b (scalV σ) AHp.emp = .rt v h ∧ avOk v = true ∧ R (avD v) 2 B
end
end AH

set_option Elab.async false
set_option linter.all false
set_option maxRecDepth 100000
set_option maxHeartbeats 400000
/-! VW10: statements' relations. -/
namespace AH
open PySem L2
def rootL : OT → List Nat | .lst a _ => [a] | _ => []
/-- places that are one's own -/
def own (t : OT) (u : Nat) : List Nat := if 2 ≤ u then t.ls else if u = 1 then rootL t else []
theorem own_sub {t : OT} {u a : Nat} (h : a ∈ own t u) : a ∈ t.ls := by
  unfold own at h
  split at h
  · exact h
  · split at h
    · cases t <;> simp [rootL, OT.ls] at h ⊢; exact .inl h
    · simp at h
theorem own_ge {t : OT} {u n a : Nat} (l : Lv t u n) (h : a ∈ own t u) : n ≤ a := by
  unfold own at h
  split at h
  · next e => exact (l.2 e).2 a h
  · split at h
    · next e =>
      cases t <;> simp [rootL] at h
      subst h
      exact (l.1 (by omega) _ _ rfl).1
    · simp at h
theorem own0 {t : OT} : own t 0 = [] := by simp [own]
def Dj (p q : OT × Nat) : Prop := (∀ a ∈ own p.1 p.2, a ∉ q.1.ls) ∧ ∀ a ∈ own q.1 q.2, a ∉ p.1.ls
theorem Dj.symm {p q : OT × Nat} (h : Dj p q) : Dj q p := ⟨h.2, h.1⟩
structure RelS (n0 : Nat) (S : Nat → Prop) (T : List (OT × Nat)) (σv : VSl) (σ : Sl) (h : AHp) (ts : Nat → OT) : Prop where
  e : RelE σv σ h ts
  sl : ∀ i d u, σv[i]? = some (VS.v d u) → Lv (ts i) u n0 ∧ (∀ a ∈ (ts i).ls, n0 ≤ a ∨ S a) ∧ ∀ a ∈ own (ts i) u, (∀ j d' u', j ≠ i → σv[j]? = some (VS.v d' u') → a ∉ (ts j).ls) ∧ ∀ p ∈ T, a ∉ p.1.ls
  tp : ∀ p ∈ T, p.1.Ok h 3 ∧ Lv p.1 p.2 n0 ∧ (∀ a ∈ p.1.ls, n0 ≤ a ∨ S a) ∧ ∀ a ∈ own p.1 p.2, ∀ j d u, σv[j]? = some (VS.v d u) → a ∉ (ts j).ls
  pw : T.Pairwise Dj
  n : n0 ≤ h.n
section
variable {n0 : Nat} {S : Nat → Prop} {T : List (OT × Nat)} {σv : VSl} {σ : Sl} {h : AHp} {ts : Nat → OT}
theorem RelS.tree (r : RelS n0 S T σv σ h ts) {i : Nat} {d : PyData} {u : Nat} (e : σv[i]? = some (VS.v d u)) : σ[i]? = some (some (ts i).v) ∧ (ts i).Ok h 3 ∧ (ts i).d = d := by
  have := r.e.2 i
  rw [e] at this
  exact this
theorem RelS.dr {h' : AHp} {B : Nat} (r : RelS n0 S T σv σ h ts) (d : DrV B h h') : RelS n0 S T σv σ h' ts :=
  ⟨r.e.dr d, r.sl, fun p hp => ⟨(r.tp p hp).1.dr d, (r.tp p hp).2⟩, r.pw, Nat.le_trans r.n d.2.1⟩
theorem RelS.sub {T' : List (OT × Nat)} (r : RelS n0 S T σv σ h ts) (s : T'.Sublist T) : RelS n0 S T' σv σ h ts :=
  ⟨r.e, fun i d u e => ⟨(r.sl i d u e).1, (r.sl i d u e).2.1, fun a ha => ⟨((r.sl i d u e).2.2 a ha).1, fun p hp => ((r.sl i d u e).2.2 a ha).2 p (s.subset hp)⟩⟩, fun p hp => r.tp p (s.subset hp), r.pw.sublist s, r.n⟩
theorem RelS.perm {T' : List (OT × Nat)} (r : RelS n0 S T σv σ h ts) (s : T.Perm T') : RelS n0 S T' σv σ h ts :=
  ⟨r.e, fun i d u e => ⟨(r.sl i d u e).1, (r.sl i d u e).2.1, fun a ha => ⟨((r.sl i d u e).2.2 a ha).1, fun p hp => ((r.sl i d u e).2.2 a ha).2 p (s.mem_iff.2 hp)⟩⟩, fun p hp => r.tp p (s.mem_iff.2 hp), s.pairwise r.pw Dj.symm, r.n⟩
theorem clr1_get {i j : Nat} : (clr1 σv i)[j]? = σv[j]? ∧ (∀ d u, j = i → (clr1 σv i)[j]? = some (VS.v d u) → u = 0) ∨ ∃ d u, j = i ∧ σv[j]? = some (VS.v d u) ∧ (clr1 σv i)[j]? = some (VS.v d 0) := by
  unfold clr1
  split
  · next d u e =>
    by_cases ej : j = i
    · subst ej
      right
      refine ⟨d, u, rfl, e, ?_⟩
      have : j < σv.length := (List.getElem?_eq_some_iff.1 e).1
      rw [List.getElem?_set, if_pos rfl, if_pos this]
    · left
      exact ⟨List.getElem?_set_ne (Ne.symm ej), fun _ _ e => absurd e ej⟩
  · next hne =>
    left
    refine ⟨rfl, fun d u e e' => ?_⟩
    subst e
    exact absurd e' (hne d u)
theorem clr_get {j : Nat} : ∀ (vs : List Nat) (σv : VSl), ((clr σv vs)[j]? = σv[j]? ∨ ∃ d u, σv[j]? = some (VS.v d u) ∧ (clr σv vs)[j]? = some (VS.v d 0)) ∧ (j ∈ vs → ∀ d u, (clr σv vs)[j]? = some (VS.v d u) → u = 0)
  | [], σv => ⟨.inl rfl, by simp⟩
  | i :: r, σv => by
    obtain ⟨h1, h2⟩ := clr_get (j := j) r (clr1 σv i)
    simp only [clr]
    refine ⟨?_, fun hj d u e => ?_⟩
    · rcases clr1_get (σv := σv) (i := i) (j := j) with ⟨a, _⟩ | ⟨d, u, _, a, b⟩
      · rw [← a]; exact h1
      · rcases h1 with z | ⟨d', u', z1, z2⟩
        · exact .inr ⟨d, u, a, by rw [z]; exact b⟩
        · rw [b] at z1
          cases z1
          exact .inr ⟨_, u, a, z2⟩
    · rcases List.mem_cons.1 hj with z | z
      · rcases h1 with w | ⟨d', u', z1, z2⟩
        · rw [w] at e
          rcases clr1_get (σv := σv) (i := i) (j := j) with ⟨a, b⟩ | ⟨d1, u1, _, a, b⟩
          · exact b d u z e
          · rw [b] at e; cases e; rfl
        · rw [z2] at e; cases e; rfl
      · exact h2 z d u e
theorem clr_len : ∀ (vs : List Nat) (σv : VSl), (clr σv vs).length = σv.length
  | [], _ => rfl
  | i :: r, σv => by
    simp only [clr]
    rw [clr_len r]
    unfold clr1
    split <;> simp
/-- slots with less of their own -/
def Le (σv σv' : VSl) : Prop := σv'.length = σv.length ∧ ∀ j : Nat, σv'[j]? = σv[j]? ∨ ∃ d u, σv[j]? = some (VS.v d u) ∧ σv'[j]? = some (VS.v d 0)
theorem Le.rfl' : Le σv σv := ⟨rfl, fun _ => .inl rfl⟩
theorem Le.clr {vs : List Nat} : Le σv (clr σv vs) := ⟨clr_len vs σv, fun j => (clr_get vs σv).1⟩
theorem Le.esc {vs : List Nat} {u : Nat} : Le σv (esc σv vs u) := by
  unfold AH.esc
  split
  · exact .rfl'
  · exact .clr
theorem Le.get {σv' : VSl} (l : Le σv σv') {j : Nat} {d : PyData} {u : Nat} (e : σv'[j]? = some (VS.v d u)) : ∃ u', σv[j]? = some (VS.v d u') ∧ (u = u' ∨ u = 0) := by
  rcases l.2 j with z | ⟨d', u', z1, z2⟩
  · exact ⟨u, by rw [← z]; exact e, .inl rfl⟩
  · rw [z2] at e; cases e; exact ⟨u', z1, .inr rfl⟩
theorem RelE.le {σv' : VSl} (r : RelE σv σ h ts) (l : Le σv σv') : RelE σv' σ h ts := by
  refine ⟨l.1.trans r.1, fun j => ?_⟩
  have := r.2 j
  rcases l.2 j with z | ⟨d', u', z1, z2⟩
  · rw [z]; exact this
  · rw [z1] at this; rw [z2]; exact this
theorem RelS.le {σv' : VSl} (r : RelS n0 S T σv σ h ts) (l : Le σv σv') : RelS n0 S T σv' σ h ts := by
  refine ⟨r.e.le l, fun i d u e => ?_, fun p hp => ⟨(r.tp p hp).1, (r.tp p hp).2.1, (r.tp p hp).2.2.1, fun a ha j d u e => ?_⟩, r.pw, r.n⟩
  · obtain ⟨u', e1, e2⟩ := l.get e
    obtain ⟨s1, s2, s3⟩ := r.sl i d u' e1
    rcases e2 with e2 | e2
    · subst e2
      exact ⟨s1, s2, fun a ha => ⟨fun j d' u' hj e' => by obtain ⟨w, e3, _⟩ := l.get e'; exact (s3 a ha).1 j d' w hj e3, (s3 a ha).2⟩⟩
    · subst e2
      exact ⟨.zero, s2, fun a ha => by simp [own0] at ha⟩
  · obtain ⟨w, e3, _⟩ := l.get e
    exact (r.tp p hp).2.2.2 a ha j d w e3
/-- what an expression may share -/
def Sh (vs : List Nat) (σv : VSl) (ts : Nat → OT) (a : Nat) : Prop := ∃ i ∈ vs, ∃ d u, σv[i]? = some (VS.v d u) ∧ a ∈ (ts i).ls
theorem Sh.al {vs : List Nat} : Al vs σv ts (Sh vs σv ts) := fun i hi d u e a ha => ⟨i, hi, d, u, e, ha⟩
theorem RelS.sh (r : RelS n0 S T σv σ h ts) {vs : List Nat} {a : Nat} (q : Sh vs σv ts a) : n0 ≤ a ∨ S a := by
  obtain ⟨i, _, d, u, e, ha⟩ := q
  exact (r.sl i d u e).2.1 a ha
/-- a value is kept -/
theorem RelS.push {vs : List Nat} {t : OT} {u B : Nat} {h1 : AHp} (r : RelS n0 S T σv σ h ts) (d : DrV B h h1) (ok : t.Ok h1 3) (l : Lv t u h.n) (al : ∀ a ∈ t.ls, h.n ≤ a ∨ Sh vs σv ts a) : RelS n0 S ((t, u) :: T) (esc σv vs u) σ h1 ts := by
  have r1 := r.dr d
  have old : ∀ i d u, σv[i]? = some (VS.v d u) → ∀ a ∈ (ts i).ls, a < h.n := fun i d u e => ls_lt (r.tree e).2.1
  have oldT : ∀ p ∈ T, ∀ a ∈ p.1.ls, a < h.n := fun p hp => ls_lt (r.tp p hp).1
  have r2 := r1.le (Le.esc (vs := vs) (u := u))
  -- what is one's own in a slot is not shared
  have key : ∀ i d' u', (esc σv vs u)[i]? = some (VS.v d' u') → ∀ a ∈ own (ts i) u', a ∉ t.ls := by
    intro i d' u' e a ha hat
    obtain ⟨w, e1, e2⟩ := (Le.esc (σv := σv) (vs := vs) (u := u)).get e
    have hw : u' = w := by
      rcases e2 with e2 | e2
      · exact e2
      · subst e2; simp [own0] at ha
    subst hw
    rcases al a hat with z | ⟨k, hk, d2, u2, e3, z⟩
    · have := old i d' u' e1 a (own_sub ha); omega
    · by_cases hki : k = i
      · subst hki
        by_cases hu : u = 2
        · have := (l.2 (by omega)).2 a hat
          have := old k d' u' e1 a (own_sub ha); omega
        · unfold esc at e
          rw [if_neg hu] at e
          have := (clr_get vs σv).2 hk d' u' e
          subst this
          simp [own0] at ha
      · exact ((r.sl i d' u' e1).2.2 a ha).1 k d2 u2 hki e3 z
  refine ⟨r2.e, fun i d' u' e => ?_, fun p hp => ?_, ?_, r2.n⟩
  · obtain ⟨s1, s2, s3⟩ := r2.sl i d' u' e
    refine ⟨s1, s2, fun a ha => ⟨(s3 a ha).1, fun p hp => ?_⟩⟩
    rcases List.mem_cons.1 hp with z | z
    · subst z; exact key i d' u' e a ha
    · exact (s3 a ha).2 p z
  · rcases List.mem_cons.1 hp with z | z
    · subst z
      refine ⟨ok, l.mono r.n, fun a ha => ?_, fun a ha j d' u' e hj => ?_⟩
      · rcases al a ha with z | z
        · exact .inl (Nat.le_trans r.n z)
        · exact r.sh z
      · have h1 := own_ge l ha
        obtain ⟨w, e1, _⟩ := (Le.esc (σv := σv) (vs := vs) (u := u)).get e
        have h2 := old j d' w e1 a hj
        omega
    · exact r2.tp p z
  · refine List.pairwise_cons.2 ⟨fun q hq => ⟨fun a ha hq' => ?_, fun a ha ha' => ?_⟩, r.pw⟩
    · have h1 := own_ge l ha
      have h2 := oldT q hq a hq'
      omega
    · rcases al a ha' with z | ⟨k, hk, d2, u2, e3, z⟩
      · have := oldT q hq a (own_sub ha); omega
      · exact (r.tp q hq).2.2.2 a ha k d2 u2 e3 z
/-- a kept value goes to a slot -/
theorem RelS.pop {t : OT} {u : Nat} (r : RelS n0 S ((t, u) :: T) σv σ h ts) (i : Nat) : RelS n0 S T (σv.set i (.v t.d u)) (σ.set i (some t.v)) h (updT ts i t) := by
  obtain ⟨ok, lv, sh, ot⟩ := r.tp (t, u) (by simp)
  obtain ⟨pw1, pw2⟩ := List.pairwise_cons.1 r.pw
  have get : ∀ {j d' u'}, (σv.set i (VS.v t.d u))[j]? = some (VS.v d' u') → (j = i ∧ u' = u ∧ updT ts i t j = t) ∨ (j ≠ i ∧ σv[j]? = some (VS.v d' u') ∧ updT ts i t j = ts j) := by
    intro j d' u' e
    by_cases ej : i = j
    · subst ej
      rw [List.getElem?_set, if_pos rfl] at e
      split at e
      · cases e; exact .inl ⟨rfl, rfl, by simp [updT]⟩
      · cases e
    · rw [List.getElem?_set_ne ej] at e
      exact .inr ⟨Ne.symm ej, e, by simp [updT, Ne.symm ej]⟩
  refine ⟨r.e.set ok i u, fun j d' u' e => ?_, fun p hp => ?_, pw2, r.n⟩
  · rcases get e with ⟨e1, e2, e3⟩ | ⟨e1, e2, e3⟩
    · rw [e3, e2]
      refine ⟨lv, sh, fun a ha => ⟨fun k d2 u2 hk ek => ?_, fun p hp => (pw1 p hp).1 a ha⟩⟩
      rcases get ek with ⟨f1, f2, f3⟩ | ⟨f1, f2, f3⟩
      · exact absurd (f1.trans e1.symm) hk
      · rw [f3]; exact ot a ha k d2 u2 f2
    · rw [e3]
      obtain ⟨s1, s2, s3⟩ := r.sl j d' u' e2
      refine ⟨s1, s2, fun a ha => ⟨fun k d2 u2 hk ek => ?_, fun p hp => (s3 a ha).2 p (by simp [hp])⟩⟩
      rcases get ek with ⟨f1, f2, f3⟩ | ⟨f1, f2, f3⟩
      · rw [f3]; exact (s3 a ha).2 (t, u) (by simp)
      · rw [f3]; exact (s3 a ha).1 k d2 u2 hk f2
  · obtain ⟨q1, q2, q3, q4⟩ := r.tp p (by simp [hp])
    refine ⟨q1, q2, q3, fun a ha j d' u' e => ?_⟩
    rcases get e with ⟨e1, e2, e3⟩ | ⟨e1, e2, e3⟩
    · rw [e3]; exact (pw1 p hp).2 a ha
    · rw [e3]; exact q4 a ha j d' u' e2
end
end AH

set_option Elab.async false
set_option linter.all false
set_option maxRecDepth 100000
set_option maxHeartbeats 400000
/-! VW11: statements' relations: bindings, changes. -/
namespace AH
open PySem L2
section
variable {n0 : Nat} {S : Nat → Prop} {T : List (OT × Nat)} {σv : VSl} {σ : Sl} {h : AHp} {ts : Nat → OT}
/-- places that are nobody's own -/
def Free (n0 : Nat) (S : Nat → Prop) (T : List (OT × Nat)) (σv : VSl) (ts : Nat → OT) (X : Nat → Prop) : Prop := (∀ i d u, σv[i]? = some (VS.v d u) → ∀ a ∈ own (ts i) u, ¬ X a) ∧ (∀ p ∈ T, ∀ a ∈ own p.1 p.2, ¬ X a) ∧ ∀ a, X a → n0 ≤ a ∨ S a
theorem RelS.bd {X : Nat → Prop} {σv1 : VSl} {σ1 : Sl} {ts1 : Nat → OT} (r : RelS n0 S T σv σ h ts) (e : RelE σv1 σ1 h ts1) (b : Bd σv σv1 ts ts1 X) (f : Free n0 S T σv ts X) : RelS n0 S T σv1 σ1 h ts1 := by
  refine ⟨e, fun i d u ei => ?_, fun p hp => ⟨(r.tp p hp).1, (r.tp p hp).2.1, (r.tp p hp).2.2.1, fun a ha j d u ej => ?_⟩, r.pw, r.n⟩
  · rcases b i d u ei with ⟨z1, z2⟩ | ⟨z0, z⟩
    · obtain ⟨s1, s2, s3⟩ := r.sl i d u z1
      rw [z2]
      refine ⟨s1, s2, fun a ha => ⟨fun j d' u' hj ej => ?_, (s3 a ha).2⟩⟩
      rcases b j d' u' ej with ⟨w1, w2⟩ | ⟨w0, w⟩
      · rw [w2]; exact (s3 a ha).1 j d' u' hj w1
      · exact fun hx => f.1 i d u z1 a ha (w a hx)
    · subst z0
      exact ⟨.zero, fun a ha => f.2.2 a (z a ha), fun a ha => by simp [own0] at ha⟩
  · rcases b j d u ej with ⟨w1, w2⟩ | ⟨w0, w⟩
    · rw [w2]; exact (r.tp p hp).2.2.2 a ha j d u w1
    · exact fun hx => f.2.1 p hp a ha (w a hx)
theorem Free.bd {X : Nat → Prop} {σv1 : VSl} {ts1 : Nat → OT} (b : Bd σv σv1 ts ts1 X) (f : Free n0 S T σv ts X) : Free n0 S T σv1 ts1 X := by
  refine ⟨fun i d u ei a ha => ?_, f.2⟩
  rcases b i d u ei with ⟨z1, z2⟩ | ⟨z0, z⟩
  · rw [z2] at ha; exact f.1 i d u z1 a ha
  · subst z0; simp [own0] at ha
theorem pw_mem {p q : OT × Nat} : ∀ {T : List (OT × Nat)}, T.Pairwise Dj → p ∈ T → q ∈ T → p = q ∨ Dj p q
  | x :: r, pw, hp, hq => by
    obtain ⟨h1, h2⟩ := List.pairwise_cons.1 pw
    rcases List.mem_cons.1 hp with e | e
    · rcases List.mem_cons.1 hq with e' | e'
      · exact .inl (e.trans e'.symm)
      · subst e; exact .inr (h1 q e')
    · rcases List.mem_cons.1 hq with e' | e'
      · subst e'; exact .inr (h1 p e).symm
      · exact pw_mem h2 e e'
/-- a kept value that is nobody's own -/
theorem RelS.free (r : RelS n0 S T σv σ h ts) {E : List OT} (hE : ∀ t ∈ E, (t, 0) ∈ T) : Free n0 S T σv ts (fun a => a ∈ lsL E) := by
  refine ⟨fun i d u e a ha hx => ?_, fun p hp a ha hx => ?_, fun a hx => ?_⟩
  · obtain ⟨t, ht, hta⟩ := lsL_mem.1 hx
    exact ((r.sl i d u e).2.2 a ha).2 _ (hE t ht) hta
  · obtain ⟨t, ht, hta⟩ := lsL_mem.1 hx
    rcases pw_mem r.pw hp (hE t ht) with e | e
    · subst e; simp [own0] at ha
    · exact e.1 a ha hta
  · obtain ⟨t, ht, hta⟩ := lsL_mem.1 hx
    exact (r.tp _ (hE t ht)).2.2.1 a hta
theorem ls_set_nodup {t : OT} : ∀ {ks : List OT} {k : Nat}, (lsL ks).Nodup → t.ls.Nodup → (∀ a ∈ t.ls, a ∉ lsL ks) → (lsL (ks.set k t)).Nodup
  | [], k, h1, h2, h3 => by simp [lsL]
  | x :: r, 0, h1, h2, h3 => by
    simp only [List.set_cons_zero, lsL, List.nodup_append] at h1 ⊢
    simp only [lsL, List.mem_append, not_or] at h3
    exact ⟨h2, h1.2.1, fun a ha b hb e => by subst e; exact (h3 a ha).2 hb⟩
  | x :: r, k + 1, h1, h2, h3 => by
    simp only [List.set_cons_succ, lsL, List.nodup_append] at h1 ⊢
    simp only [lsL, List.mem_append, not_or] at h3
    refine ⟨h1.1, ls_set_nodup h1.2.1 h2 fun a ha => (h3 a ha).2, fun a ha b hb e => ?_⟩
    subst e
    obtain ⟨y, hy, hya⟩ := lsL_mem.1 hb
    rcases List.mem_or_eq_of_mem_set hy with z | z
    · exact h1.2.2 a ha a (lsL_mem.2 ⟨y, z, hya⟩) rfl
    · subst z; exact (h3 a hya).1 ha
theorem OT.Ok.set1 {a : Nat} {xs ys : List AV} {t : OT} (ok : t.Ok h 3) (g : h.get a = some (.lst xs)) (hn : a ∉ t.ls) : t.Ok (h.set a (.lst ys)) 3 :=
  ok.frame (L := [a]) (by simp) (fun b hb => by simp at hb; subst hb; exact ⟨_, g⟩) (fun b hb => by simp at hb; rw [AHp.get_set, if_neg hb]) fun b hb z => by simp at z; subst z; exact hn hb
/-- a list of one's own is changed, by a kept value -/
theorem RelS.mut {t : OT} {u i w f a : Nat} {ks ks' : List OT} {d : PyData} (r : RelS n0 S ((t, u) :: T) σv σ h ts) (e : σv[i]? = some (VS.v d w)) (hw : 1 ≤ w) (ht : ts i = .lst a ks) (hk : ∀ x ∈ lsL ks', x ∈ lsL ks ∨ x ∈ t.ls) (hok : OksL h 3 ks') (hl : ks'.length < 16777216)
    (hf : f ≤ 1 ∨ (2 ≤ w ∧ (lsL ks').Nodup ∧ (2 ≤ u ∨ ∀ x ∈ lsL ks', x ∈ lsL ks))) : RelS n0 S T (σv.set i (.v (.list (ks'.map OT.d)) f)) σ (h.set a (.lst (ks'.map OT.v))) (updT ts i (.lst a ks')) := by
  obtain ⟨s1, s2, s3⟩ := r.sl i d w e
  obtain ⟨tr1, tr2, tr3⟩ := r.tree e
  obtain ⟨tp1, tp2, tp3, tp4⟩ := r.tp (t, u) (by simp)
  obtain ⟨pw1, pw2⟩ := List.pairwise_cons.1 r.pw
  rw [ht] at s1 s2 s3 tr1 tr2 tr3
  have tr2' := tr2
  simp only [OT.Ok] at tr2'
  have hroot := s1.1 hw a ks rfl
  have aown : a ∈ own (.lst a ks) w := by
    unfold own
    split
    · simp [OT.ls]
    · split
      · simp [rootL]
      · omega
  have ilt : i < σv.length := (List.getElem?_eq_some_iff.1 e).1
  have anot : a ∉ t.ls := (s3 a aown).2 (t, u) (by simp)
  have anew : a ∉ lsL ks' := fun z => by
    rcases hk a z with z | z
    · exact hroot.2 z
    · exact anot z
  have get : ∀ {j d' u'}, (σv.set i (VS.v (.list (ks'.map OT.d)) f))[j]? = some (VS.v d' u') → (j = i ∧ u' = f ∧ d' = .list (ks'.map OT.d) ∧ updT ts i (.lst a ks') j = .lst a ks') ∨ (j ≠ i ∧ σv[j]? = some (VS.v d' u') ∧ updT ts i (.lst a ks') j = ts j) := by
    intro j d' u' e
    by_cases ej : i = j
    · subst ej
      rw [List.getElem?_set, if_pos rfl, if_pos ilt] at e
      cases e; exact .inl ⟨rfl, rfl, rfl, by simp [updT]⟩
    · rw [List.getElem?_set_ne ej] at e
      exact .inr ⟨Ne.symm ej, e, by simp [updT, Ne.symm ej]⟩
  have okn : (OT.lst a ks').Ok (h.set a (.lst (ks'.map OT.v))) 3 := by
    simp only [OT.Ok]
    refine ⟨tr2'.1, by simpa using tr2'.2.1, by rw [AHp.get_set, if_pos rfl], hl, OksL_iff.2 fun x hx => (OksL_iff.1 hok x hx).set1 tr2'.2.2.1 fun z => anew (lsL_mem.2 ⟨x, hx, z⟩)⟩
  -- what is in the new list, of others
  have other : ∀ b ∈ (OT.lst a ks').ls, b ∈ (OT.lst a ks).ls ∨ b ∈ t.ls := by
    intro b hb
    simp only [OT.ls, List.mem_cons] at hb ⊢
    rcases hb with z | z
    · exact .inl (.inl z)
    · exact (hk b z).imp .inr id
  have nown : ∀ b ∈ own (.lst a ks') f, b ∈ own (.lst a ks) w ∨ (2 ≤ u ∧ b ∈ t.ls) := by
    intro b hb
    unfold own at hb
    split at hb
    · next h2 =>
      rcases hf with z | ⟨z1, z2, z3⟩
      · omega
      · have hw2 : own (.lst a ks) w = (OT.lst a ks).ls := by unfold own; rw [if_pos z1]
        rw [hw2]
        simp only [OT.ls, List.mem_cons] at hb ⊢
        rcases hb with z | z
        · exact .inl (.inl z)
        · rcases z3 with z3 | z3
          · rcases hk b z with z | z
            · exact .inl (.inr z)
            · exact .inr ⟨z3, z⟩
          · exact .inl (.inr (z3 b z))
    · split at hb
      · simp [rootL] at hb; subst hb; exact .inl aown
      · simp at hb
  refine ⟨⟨by simpa using r.e.1, fun j => ?_⟩, fun j d' u' ej => ?_, fun p hp => ?_, pw2, by simpa using r.n⟩
  · by_cases ej : i = j
    · subst ej
      rw [List.getElem?_set, if_pos rfl, if_pos ilt]
      simp only [updT, if_true, R1]
      exact ⟨tr1, okn, by simp [OT.d, dsL_map]⟩
    · rw [List.getElem?_set_ne ej]
      have := r.e.2 j
      simp only [updT, if_neg (Ne.symm ej)]
      revert this
      unfold R1
      cases hv : σv[j]? with
      | none => exact id
      | some x =>
        cases x with
        | no => exact id
        | strm => exact id
        | v d' u' =>
          intro this
          refine ⟨this.1, this.2.1.set1 tr2'.2.2.1 ?_, this.2.2⟩
          exact (s3 a aown).1 j d' u' (Ne.symm ej) hv
  · rcases get ej with ⟨f1, f2, f3, f4⟩ | ⟨f1, f2, f3⟩
    · rw [f4, f2]
      refine ⟨⟨fun h1 b xs eb => ?_, fun h2 => ?_⟩, fun b hb => ?_, fun b hb => ⟨fun k d2 u2 hk2 ek => ?_, fun p hp => ?_⟩⟩
      · cases eb; exact ⟨hroot.1, anew⟩
      · rcases hf with z | ⟨z1, z2, z3⟩
        · omega
        · have l2 := s1.2 z1
          simp only [OT.ls, List.nodup_cons, List.mem_cons] at l2 ⊢
          refine ⟨⟨anew, z2⟩, fun b hb => ?_⟩
          rcases hb with z | z
          · subst z; exact hroot.1
          · rcases z3 with z3 | z3
            · rcases hk b z with z | z
              · exact l2.2 b (.inr z)
              · exact (tp2.2 z3).2 b z
            · exact l2.2 b (.inr (z3 b z))
      · rcases other b hb with z | z
        · exact s2 b z
        · exact tp3 b z
      · rcases get ek with ⟨g1, _⟩ | ⟨g1, g2, g3⟩
        · exact absurd (g1.trans f1.symm) hk2
        · rw [g3]
          rcases nown b hb with z | ⟨z1, z⟩
          · exact (s3 b z).1 k d2 u2 (by rw [← f1]; exact hk2) g2
          · exact tp4 b (by unfold own; rw [if_pos z1]; exact z) k d2 u2 g2
      · rcases nown b hb with z | ⟨z1, z⟩
        · exact (s3 b z).2 p (by simp [hp])
        · exact (pw1 p hp).1 b (by unfold own; rw [if_pos z1]; exact z)
    · rw [f3]
      obtain ⟨q1, q2, q3⟩ := r.sl j d' u' f2
      refine ⟨q1, q2, fun b hb => ⟨fun k d2 u2 hk2 ek => ?_, fun p hp => (q3 b hb).2 p (by simp [hp])⟩⟩
      rcases get ek with ⟨g1, g2, g3, g4⟩ | ⟨g1, g2, g3⟩
      · rw [g4]
        intro z
        rcases other b z with z | z
        · have := (q3 b hb).1 i d w (Ne.symm f1) e
          rw [ht] at this
          exact this z
        · exact (q3 b hb).2 (t, u) (by simp) z
      · rw [g3]; exact (q3 b hb).1 k d2 u2 hk2 g2
  · obtain ⟨q1, q2, q3, q4⟩ := r.tp p (by simp [hp])
    refine ⟨q1.set1 tr2'.2.2.1 ((s3 a aown).2 p (by simp [hp])), q2, q3, fun b hb j d' u' ej => ?_⟩
    rcases get ej with ⟨f1, f2, f3, f4⟩ | ⟨f1, f2, f3⟩
    · rw [f4]
      intro z
      rcases other b z with z | z
      · have := q4 b hb i d w e
        rw [ht] at this
        exact this z
      · exact (pw1 p hp).2 b hb z
    · rw [f3]; exact q4 b hb j d' u' f2
end
end AH

set_option Elab.async false
set_option linter.all false
set_option maxRecDepth 100000
set_option maxHeartbeats 1000000
/-! VW12: values that are moved, values kept one behind another. -/
namespace AH
open PySem L2
def OT.part : OT → List Nat → OT
  | t, [] => t
  | t, k :: p => match t.kids[k]? with
    | some x => OT.part x p
    | none => .sc .non
theorem part_sub : ∀ {t : OT} (p : List Nat), (t.part p).ls.Sublist t.ls
  | t, [] => .refl _
  | t, k :: p => by
    simp only [OT.part]
    split
    · next x e => exact (part_sub p).trans (kid_sub (List.mem_of_getElem? e))
    · simp [OT.ls]
theorem lsL_dis : ∀ {ks : List OT} {i j : Nat} {x y : OT}, (lsL ks).Nodup → i ≠ j → ks[i]? = some x → ks[j]? = some y → ∀ a ∈ x.ls, ∀ b ∈ y.ls, a ≠ b
  | [], i, j, x, y, nd, ij, e1, e2 => by simp at e1
  | t :: r, 0, 0, x, y, nd, ij, e1, e2 => absurd rfl ij
  | t :: r, 0, j + 1, x, y, nd, ij, e1, e2 => by
    simp only [lsL, List.nodup_append] at nd
    simp only [List.getElem?_cons_zero, Option.some.injEq] at e1
    subst e1
    intro a ha b hb
    exact nd.2.2 a ha b ((ls_sub (List.mem_of_getElem? (by simpa using e2))).subset hb)
  | t :: r, i + 1, 0, x, y, nd, ij, e1, e2 => by
    simp only [lsL, List.nodup_append] at nd
    simp only [List.getElem?_cons_zero, Option.some.injEq] at e2
    subst e2
    intro a ha b hb
    exact (nd.2.2 b hb a ((ls_sub (List.mem_of_getElem? (by simpa using e1))).subset ha)).symm
  | t :: r, i + 1, j + 1, x, y, nd, ij, e1, e2 => by
    simp only [lsL, List.nodup_append] at nd
    exact lsL_dis (i := i) (j := j) nd.2.1 (by omega) (by simpa using e1) (by simpa using e2)
theorem part_dis : ∀ {p q : List Nat} {t : OT}, dvl p q = true → t.ls.Nodup → ∀ a ∈ (t.part p).ls, ∀ b ∈ (t.part q).ls, a ≠ b
  | [], q, t, d, nd => by simp [dvl] at d
  | i :: p, [], t, d, nd => by simp [dvl] at d
  | i :: p, j :: q, t, d, nd => by
    simp only [dvl, Bool.or_eq_true, bne_iff_ne, ne_eq] at d
    simp only [OT.part]
    intro a ha b hb
    split at ha
    · next x ex =>
      split at hb
      · next y ey =>
        by_cases ij : i = j
        · subst ij
          rw [ex] at ey
          cases ey
          exact part_dis (d.resolve_left fun e => e rfl) (nd.sublist (kid_sub (List.mem_of_getElem? ex))) a ha b hb
        · exact lsL_dis (nd.sublist kids_ls) ij ex ey a ((part_sub p).subset ha) b ((part_sub q).subset hb)
      · simp [OT.ls] at hb
    · simp [OT.ls] at ha
theorem part_app : ∀ {p : List Nat} {t : OT} {k : Nat} {x : OT}, (t.part p).kids[k]? = some x → t.part (p ++ [k]) = x
  | [], t, k, x, e => by simp only [OT.part] at e; simp [OT.part, e]
  | i :: p, t, k, x, e => by
    simp only [OT.part, List.cons_append] at e ⊢
    split at e
    · next y ey => exact part_app e
    · simp [OT.kids] at e
theorem nols_kid {t x : OT} (h : nols t.d = true) (hx : x ∈ t.kids) : nols x.d = true := by
  have : ∀ {ks : List OT}, nolsL (dsL ks) = true → ∀ y ∈ ks, nols y.d = true := by
    intro ks
    induction ks with
    | nil => intro _ y hy; simp at hy
    | cons z r ih =>
      intro h y hy
      simp only [dsL, nolsL, Bool.and_eq_true] at h
      rcases List.mem_cons.1 hy with e | e
      · subst e; exact h.1
      · exact ih h.2 y e
  cases t with
  | sc v => simp [OT.kids] at hx
  | lst a xs => simp [OT.d, nols] at h
  | tup a xs => simp only [OT.d, nols] at h; exact this h x hx
  | edct a => simp [OT.kids] at hx
theorem nols_part : ∀ {p : List Nat} {t : OT}, nols t.d = true → nols (t.part p).d = true
  | [], t, h => h
  | k :: p, t, h => by
    simp only [OT.part]
    split
    · next x e => exact nols_part (nols_kid h (List.mem_of_getElem? e))
    · rfl
theorem tup_add {h : AHp} {p p' : Nat} {ts us : List OT} {X : QX} (hn : 3 ≤ h.n) (ok : (OT.tup p ts).Ok h 3) (ok' : (OT.tup p' us).Ok h 3) (c : ts.length + us.length < 16777216) : ∃ q h3, binA .add h (OT.tup p ts).v (OT.tup p' us).v = .ok (OT.tup q (ts ++ us)).v h3 ∧ (OT.tup q (ts ++ us)).Ok h3 3 ∧ Keep AH.noA h h3 := by
  have ok1 := ok
  have ok2 := ok'
  simp only [OT.Ok] at ok1 ok2
  have okk := ok1.2.2.2.2.app ok2.2.2.2.2
  have : binA .add h (OT.tup p ts).v (OT.tup p' us).v = if (ts.map OT.v).isEmpty then Rs.ok (AV.ref p') h else if (us.map OT.v).isEmpty then .ok (.ref p) h else .ok (.ref h.n) (h.add (.tup (ts.map OT.v ++ us.map OT.v))) := by
    show (match h.get p, h.get p' with
      | some (.lst xs), some (.lst ys) => if isz (xs.length + ys.length) then Rs.ok (AV.ref h.n) (h.add (.lst (xs ++ ys))) else .no
      | some (.tup xs), some (.tup ys) => if isz (xs.length + ys.length) then
          if xs.isEmpty then .ok (AV.ref p') h else if ys.isEmpty then .ok (.ref p) h else .ok (.ref h.n) (h.add (.tup (xs ++ ys)))
        else .no
      | _, _ => .no) = _
    simp only [ok1.2.2.1, ok2.2.2.1, List.length_map, isz_ok (Nat.le_of_lt c), if_true]
  rw [this]
  cases ts with
  | nil => exact ⟨p', h, by simp [OT.v], by simpa using ok', .refl⟩
  | cons t0 ts0 =>
    cases us with
    | nil => exact ⟨p, h, by simp [OT.v], by simpa using ok, .refl⟩
    | cons u0 us0 =>
      refine ⟨h.n, _, ?_, mk_tup okk hn (by rw [List.length_append]; exact c), .add⟩
      simp [OT.v]
section
variable {hE : AHp} {S : Nat → Prop} {T : List (OT × Nat)} {σv : VSl} {σ : Sl} {h : AHp} {ts : Nat → OT}
theorem wP_ok {V : VC} (r : RelS hE.n S T σv σ h ts) : ∀ {e : E} {p : Pth} {d : PyData} {u : Nat}, wP σv e = some (p, d, u) → ∃ d0, σv[p.1]? = some (VS.v d0 u) ∧ ((ts p.1).part p.2).Ok h 3 ∧ ((ts p.1).part p.2).d = d ∧ evE V.C e σ h = .ok ((ts p.1).part p.2).v h ∧ (p.2 ≠ [] → ((ts p.1).part p.2).ls.Sublist (ts p.1).ls)
  | .var i, p, d, u, e => by
    simp only [wP] at e
    split at e
    · next d' u' e' =>
      simp only [Option.some.injEq, Prod.mk.injEq] at e
      obtain ⟨e1, e2, e3⟩ := e
      subst e1
      subst e2
      subst e3
      obtain ⟨f1, ok, f2⟩ := r.tree e'
      exact ⟨_, e', ok, f2, by simp only [evE, f1]; rfl, fun z => part_sub _⟩
    · cases e
  | .sub a (.int k), p, d, u, e => by
    simp only [wP] at e
    split at e
    · next p' d' u' e' =>
      obtain ⟨d0, f1, f2, f3, f4, f5⟩ := wP_ok (V := V) r e'
      split at e
      · next hk =>
        split at e
        · next xs ex =>
          rw [Option.map_eq_some_iff] at e
          obtain ⟨y, ey, e⟩ := e
          simp only [Prod.mk.injEq] at e
          obtain ⟨e1, e2, e3⟩ := e
          subst e1
          subst e2
          subst e3
          rw [← f3] at ex
          obtain ⟨n, exs⟩ := sqD_inv ex
          subst exs
          rw [List.getElem?_map, Option.map_eq_some_iff] at ey
          obtain ⟨x, hx, ed⟩ := ey
          have hp := part_app hx
          obtain ⟨b, eb, g⟩ := f2.vals n
          have hat : atI (((ts p'.1).part p'.2).kids.map OT.v) k = some x.v := by
            unfold atI ixN
            have hlt := (List.getElem?_eq_some_iff.1 hx).1
            rw [List.length_map, if_pos hk, if_pos (by omega)]
            simp [hx]
          refine ⟨d0, f1, ?_, ?_, ?_, fun _ => part_sub _⟩
          · rw [hp]; exact f2.kid (List.mem_of_getElem? hx)
          · rw [hp]; exact ed
          · rw [hp]
            simp only [evE, f4, Rs.bind, eb]
            rcases g with g | g <;> simp only [ixA, g, hat]
        · cases e
      · cases e
    · cases e
theorem xp_up {vs : List Nat} {X : WX} (r : RelS hE.n S T σv σ h ts) (hk : Keep (isStr 2 1) hE h) : ∀ c fs h', XP (Sh vs σv ts) h X c fs h' → XP S hE X c fs h' := by
  intro c fs h' ⟨us, B, e, ok, d, q⟩
  refine ⟨us, B, e, fun p hp => ⟨(ok p hp).1, fun a ha => ?_⟩, ⟨d.1, hk.trans d.2⟩, q⟩
  rcases (ok p hp).2 a ha with z | z
  · exact .inl (Nat.le_trans hk.1 z)
  · exact r.sh z
theorem sE' {V : VC} (hc : SoundC V) {e : E} {B : Nat} {Q : WQ} {X : WX} (r : RelS hE.n S T σv σ h ts) (hk : Keep (isStr 2 1) hE h) (st : StrOk h 2 1 B) (q : wE V e σv B Q X) : okR (evE V.C e σ h) (RP (Sh (vsE e) σv ts) h Q) (XP S hE X) :=
  okR_mono2 (sE V hc e r.e st Sh.al q) (fun _ _ q => q) (xp_up r hk)
/-- what a moved value is -/
def Mv (hE h : AHp) (S : Nat → Prop) (σv : VSl) (ts : Nat → OT) (t : OT) (u : Nat) (mv : List Pth) : Prop := Lv t u hE.n ∧ (∀ a ∈ t.ls, hE.n ≤ a ∨ S a) ∧ (2 ≤ u → ∀ a ∈ t.ls, h.n ≤ a ∨ ∃ i ∈ mv, ∃ d w, 2 ≤ w ∧ σv[i.1]? = some (VS.v d w) ∧ a ∈ ((ts i.1).part i.2).ls) ∧ ∀ i ∈ mv, ∃ d w, σv[i.1]? = some (VS.v d w) ∧ nols d = false
def MP (hE h : AHp) (S : Nat → Prop) (σv : VSl) (ts : Nat → OT) (Q : PyData → Nat → List Pth → Nat → Prop) : QV := fun v h' => ∃ (t : OT) (u : Nat) (mv : List Pth) (B : Nat), v = t.v ∧ t.Ok h' 3 ∧ Mv hE h S σv ts t u mv ∧ DrV B h h' ∧ Q t.d u mv B
def MvL (hE h : AHp) (S : Nat → Prop) (σv : VSl) (ts : Nat → OT) (us : List OT) (m : Nat) (mv : List Pth) : Prop := (∀ a ∈ lsL us, hE.n ≤ a ∨ S a) ∧ (2 ≤ m → (lsL us).Nodup ∧ (∀ a ∈ lsL us, hE.n ≤ a) ∧ ∀ a ∈ lsL us, h.n ≤ a ∨ ∃ i ∈ mv, ∃ d w, 2 ≤ w ∧ σv[i.1]? = some (VS.v d w) ∧ a ∈ ((ts i.1).part i.2).ls) ∧ ∀ i ∈ mv, ∃ d w, σv[i.1]? = some (VS.v d w) ∧ nols d = false
def MPL (hE h : AHp) (S : Nat → Prop) (σv : VSl) (ts : Nat → OT) (Q : List PyData → Nat → List Pth → Nat → Prop) : List AV → AHp → Prop := fun vs h' => ∃ (us : List OT) (m : Nat) (mv : List Pth) (B : Nat), vs = us.map OT.v ∧ OksL h' 3 us ∧ MvL hE h S σv ts us m mv ∧ DrV B h h' ∧ Q (us.map OT.d) m mv B
theorem mp_of {V : VC} (hc : SoundC V) {e : E} {B : Nat} {Q : PyData → Nat → List Pth → Nat → Prop} {X : WX} (r : RelS hE.n S T σv σ h ts) (hk : Keep (isStr 2 1) hE h) (st : StrOk h 2 1 B) (q : wE V e σv B (fun d u B1 => Q d u [] B1) X) : okR (evE V.C e σ h) (MP hE h S σv ts Q) (XP S hE X) := by
  refine okR_mono (sE' hc r hk st q) fun v h1 ⟨t, u, B1, e, ok, l, al, d, q⟩ => ?_
  refine ⟨t, u, [], B1, e, ok, ⟨l.mono r.n, fun a ha => ?_, fun h2 a ha => .inl ((l.2 h2).2 a ha), by simp⟩, d, q⟩
  rcases al a ha with z | z
  · exact .inl (Nat.le_trans hk.1 z)
  · exact r.sh z
/-- two moved parts have nothing in common -/
theorem mv_dis {t : List Nat} {us : List Nat} {mv mw : List Pth} {h1 : AHp} (r : RelS hE.n S T σv σ h ts) (hh : h.n ≤ h1.n) (nd : pok mv mw = true) (lt : ∀ a ∈ t, a < h1.n)
    (p1 : ∀ a ∈ t, h.n ≤ a ∨ ∃ i ∈ mv, ∃ d w, 2 ≤ w ∧ σv[i.1]? = some (VS.v d w) ∧ a ∈ ((ts i.1).part i.2).ls)
    (p2 : ∀ a ∈ us, h1.n ≤ a ∨ ∃ i ∈ mw, ∃ d w, 2 ≤ w ∧ σv[i.1]? = some (VS.v d w) ∧ a ∈ ((ts i.1).part i.2).ls) : ∀ a ∈ t, ∀ b ∈ us, a ≠ b := by
  intro a ha b hb e
  subst e
  have h1 := lt a ha
  rcases p2 a hb with z | ⟨j, hj, d, w, hw, ej, z⟩
  · omega
  · have h2 := ls_lt (r.tree ej).2.1 a ((part_sub j.2).subset z)
    rcases p1 a ha with y | ⟨i, hi, d', w', hw', ei, y⟩
    · omega
    · have dv : dvg i j = true := List.all_eq_true.1 (List.all_eq_true.1 nd i hi) j hj
      simp only [dvg, Bool.or_eq_true, bne_iff_ne, ne_eq] at dv
      by_cases hij : j.1 = i.1
      · rcases dv with e | e
        · exact e hij.symm
        · rw [hij] at z ej
          have nd' := ((r.sl i.1 d' w' ei).1.2 hw').1
          exact part_dis e nd' a y a z rfl
      · refine ((r.sl i.1 d' w' ei).2.2 a ?_).1 j.1 d w hij ej ((part_sub j.2).subset z)
        unfold own; rw [if_pos hw']; exact (part_sub i.2).subset y
theorem sVL_cons {V : VC} {e : E} {rr : L} {Q : List PyData → Nat → List Pth → Nat → Prop} {X : WX} (r : RelS hE.n S T σv σ h ts) (hk : Keep (isStr 2 1) hE h)
    (ih : okR (evE V.C e σ h) (MP hE h S σv ts (fun x u mv B1 => wV.wVL V rr σv B1 (fun ds m mw B2 => Q (x :: ds) (if pok mv mw = true then min u m else 0) (mv ++ mw) B2) X)) (XP S hE X))
    (ih2 : ∀ {h1 : AHp} {B1 : Nat} {Q : List PyData → Nat → List Pth → Nat → Prop}, RelS hE.n S T σv σ h1 ts → Keep (isStr 2 1) hE h1 → StrOk h1 2 1 B1 → wV.wVL V rr σv B1 Q X → okR (evL V.C rr σ h1) (MPL hE h1 S σv ts Q) (XP S hE X)) : okR (evL V.C (.cons e rr) σ h) (MPL hE h S σv ts Q) (XP S hE X) := by
  simp only [evL]
  rw [okR_bind]
  refine okR_mono ih fun v h1 ⟨t, u, mv, B1, ev, ok, ⟨m1, m2, m3, m4⟩, d, q⟩ => ?_
  subst ev
  rw [okR_bind]
  refine okR_mono (ih2 (r.dr d) (hk.trans d.2) d.1 q) fun vs h2 ⟨us, m, mw, B2, ev, ok2, ⟨w1, w2, w3⟩, d2, q⟩ => ?_
  subst ev
  refine ⟨t :: us, _, mv ++ mw, B2, rfl, by simp only [OksL]; exact ⟨ok.dr d2, ok2⟩, ⟨fun a ha => ?_, fun hm => ?_, fun i hi => ?_⟩, d.trans d2, q⟩
  · simp only [lsL, List.mem_append] at ha
    exact ha.elim (m2 a) (w1 a)
  · split at hm
    · next nd =>
      have hu : 2 ≤ u := by omega
      obtain ⟨x1, x2, x3⟩ := w2 (by omega)
      have l2 := m1.2 hu
      have dis := mv_dis r d.2.1 nd (ls_lt ok) (m3 hu) x3
      simp only [lsL, List.nodup_append, List.mem_append]
      refine ⟨⟨l2.1, x1, dis⟩, fun a ha => ha.elim (l2.2 a) (x2 a), fun a ha => ?_⟩
      rcases ha with z | z
      · rcases m3 hu a z with y | ⟨i, hi, y⟩
        · exact .inl y
        · exact .inr ⟨i, by simp [hi], y⟩
      · rcases x3 a z with y | ⟨i, hi, y⟩
        · exact .inl (Nat.le_trans d.2.1 y)
        · exact .inr ⟨i, by simp [hi], y⟩
    · omega
  · exact (List.mem_append.1 hi).elim (m4 i) (w3 i)
end
mutual
theorem sV (V : VC) (hc : SoundC V) : ∀ (e : E) {hE : AHp} {S : Nat → Prop} {T : List (OT × Nat)} {σv : VSl} {σ : Sl} {h : AHp} {ts : Nat → OT} {B : Nat} {Q : PyData → Nat → List Pth → Nat → Prop} {X : WX}, RelS hE.n S T σv σ h ts → Keep (isStr 2 1) hE h → StrOk h 2 1 B → wV V e σv B Q X → okR (evE V.C e σ h) (MP hE h S σv ts Q) (XP S hE X)
  | .var i, hE, S, T, σv, σ, h, ts, B, Q, X, r, hk, st, q => by
    simp only [wV] at q
    split at q
    · next d u e =>
      obtain ⟨e1, ok, e2⟩ := r.tree e
      obtain ⟨s1, s2, s3⟩ := r.sl i d u e
      simp only [evE, e1, okR_ok]
      subst e2
      split at q
      · next hn =>
        have := nols_ls ok hn
        exact ⟨ts i, 2, [], B, rfl, ok, ⟨.nil this, s2, by simp [this], by simp⟩, .rfl' st, q⟩
      · next hn =>
        exact ⟨ts i, u, [(i, [])], B, rfl, ok, ⟨s1, s2, fun h2 a ha => .inr ⟨(i, []), by simp, _, u, h2, e, ha⟩, fun j hj => by simp at hj; subst hj; exact ⟨_, u, e, by simpa using hn⟩⟩, .rfl' st, q⟩
    · exact q.elim
  | .tup es, hE, S, T, σv, σ, h, ts, B, Q, X, r, hk, st, q => by
    simp only [wV] at q
    simp only [evE]
    rw [okR_bind]
    refine okR_mono (sVL V hc es r hk st q) fun vs h1 ⟨us, m, mv, B1, ev, ok, ⟨w1, w2, w3⟩, d, hl, q⟩ => ?_
    subst ev
    simp only [List.length_map] at hl
    rw [if_pos (by rw [List.length_map]; exact isz_ok (by omega))]
    refine ⟨.tup h1.n us, lvT m, mv, B1, rfl, mk_tup ok d.1.n3 hl, ⟨⟨fun _ a xs e => (by cases e), fun h2 => ?_⟩, fun a ha => w1 a (by simpa [OT.ls] using ha), fun h2 a ha => ?_, w3⟩, d.noA .add, by simpa [OT.d, dsL_map] using q⟩
    · have hm : m = 2 := by unfold lvT at h2; split at h2 <;> omega
      obtain ⟨x1, x2, x3⟩ := w2 (by omega)
      simpa [OT.ls] using ⟨x1, x2⟩
    · have hm : m = 2 := by unfold lvT at h2; split at h2 <;> omega
      exact (w2 (by omega)).2.2 a (by simpa [OT.ls] using ha)
  | .lst es, hE, S, T, σv, σ, h, ts, B, Q, X, r, hk, st, q => by
    simp only [wV] at q
    simp only [evE]
    rw [okR_bind]
    refine okR_mono (sVL V hc es r hk st q) fun vs h1 ⟨us, m, mv, B1, ev, ok, ⟨w1, w2, w3⟩, d, hl, q⟩ => ?_
    subst ev
    simp only [List.length_map] at hl
    rw [if_pos (by rw [List.length_map]; exact isz_ok (by omega))]
    have hn : hE.n ≤ h1.n := (hk.trans d.2).1
    refine ⟨.lst h1.n us, lvL m, mv, B1, rfl, mk_lst ok d.1.n3 hl, ⟨⟨fun _ a xs e => ?_, fun h2 => ?_⟩, fun a ha => ?_, fun h2 a ha => ?_, w3⟩, d.noA .add, by simpa [OT.d, dsL_map] using q⟩
    · cases e
      exact ⟨hn, fun z => by have := lsL_lt ok _ z; omega⟩
    · have hm : m = 2 := by unfold lvL at h2; split at h2 <;> omega
      obtain ⟨x1, x2, x3⟩ := w2 (by omega)
      simp only [OT.ls, List.nodup_cons, List.mem_cons]
      exact ⟨⟨fun z => by have := lsL_lt ok _ z; omega, x1⟩, fun a ha => ha.elim (fun e => by subst e; exact hn) (x2 a)⟩
    · simp only [OT.ls, List.mem_cons] at ha
      exact ha.elim (fun e => .inl (by subst e; exact hn)) (w1 a)
    · have hm : m = 2 := by unfold lvL at h2; split at h2 <;> omega
      simp only [OT.ls, List.mem_cons] at ha
      exact ha.elim (fun e => .inl (by subst e; exact d.2.1)) ((w2 (by omega)).2.2 a)
  | .bin .add a b, hE, S, T, σv, σ, h, ts, B, Q, X, r, hk, st, q => by
    simp only [wV] at q
    simp only [evE]
    rw [okR_bind]
    refine okR_mono (sV V hc a r hk st q) fun v h1 ⟨t, u, mv, B1, ev, ok, ⟨m1, m2, m3, m4⟩, d, q⟩ => ?_
    subst ev
    rw [okR_bind]
    refine okR_mono2 (sV V hc b (r.dr d) (hk.trans d.2) d.1 q) (fun v h2 ⟨t2, u2, mw, B2, ev, ok2, ⟨x1, x2, x3, x4⟩, d2, q⟩ => ?_) (fun _ _ _ q => q)
    subst ev
    have ok' := ok.dr d2
    have hn : hE.n ≤ h2.n := ((hk.trans d.2).trans d2.2).1
    have d12 := d.trans d2
    dsimp only at q
    split at q
    · next xs ys a1 a2 =>
      obtain ⟨pa, ks, f1, f2⟩ := lst_inv a1
      obtain ⟨pb, ls, g1, g2⟩ := lst_inv a2
      subst f1
      subst g1
      subst f2
      subst g2
      obtain ⟨hl, q⟩ := q
      simp only [List.length_map] at hl
      have okx := ok'
      have oky := ok2
      simp only [OT.Ok] at okx oky
      simp only [OT.v]
      rw [o_addl okx.2.2.1 oky.2.2.1 (by simp; omega), ← List.map_append]
      rw [← List.map_append] at q
      have okk := okx.2.2.2.2.app oky.2.2.2.2
      simp only [OT.ls, List.mem_cons] at m2 m3 x2 x3
      have lt := lsL_lt okk
      refine ⟨.lst h2.n (ks ++ ls), _, mv ++ mw, B2, rfl, mk_lst okk d2.1.n3 (by simp; omega), ⟨⟨fun _ c xs e => ?_, fun h2' => ?_⟩, fun c hc' => ?_, fun h2' c hc' => ?_, fun i hi => (List.mem_append.1 hi).elim (m4 i) (x4 i)⟩, d12.noA .add, by simpa [OT.d, dsL_map] using q⟩
      · cases e
        exact ⟨hn, fun z => by have := lt _ z; omega⟩
      · simp only [OT.ls, List.nodup_cons, List.mem_cons]
        split at h2'
        · next c =>
          have l1 := m1.2 (by omega)
          have l2 := x1.2 (by omega)
          simp only [OT.ls, List.nodup_cons, List.mem_cons] at l1 l2
          have dis := mv_dis (t := lsL ks) (us := lsL ls) r d.2.1 c.2.2 (fun a ha => by simp only [OT.Ok] at ok; exact lsL_lt ok.2.2.2.2 a ha) (fun a ha => m3 (by omega) a (.inr ha)) (fun a ha => x3 (by omega) a (.inr ha))
          refine ⟨⟨fun z => by have := lt _ z; omega, ?_⟩, fun c hc' => hc'.elim (fun e => by subst e; exact hn) fun hc' => ?_⟩
          · rw [lsL_app, List.nodup_append]
            exact ⟨l1.1.2, l2.1.2, dis⟩
          · rw [lsL_app, List.mem_append] at hc'
            exact hc'.elim (fun z => l1.2 c (.inr z)) fun z => l2.2 c (.inr z)
        · have := lvK_nil okk (by rw [List.map_append]; exact h2')
          rw [this]
          exact ⟨⟨by simp, by simp⟩, fun c hc' => hc'.elim (fun e => by subst e; exact hn) fun hc' => by simp at hc'⟩
      · simp only [OT.ls, List.mem_cons] at hc'
        rcases hc' with e | hc'
        · subst e; exact .inl hn
        · rw [lsL_app, List.mem_append] at hc'
          exact hc'.elim (fun z => m2 c (.inr z)) fun z => x2 c (.inr z)
      · simp only [OT.ls, List.mem_cons] at hc'
        rcases hc' with e | hc'
        · subst e; exact .inl d12.2.1
        · split at h2'
          · next c0 =>
            rw [lsL_app, List.mem_append] at hc'
            rcases hc' with z | z
            · rcases m3 (by omega) c (.inr z) with y | ⟨i, hi, y⟩
              · exact .inl y
              · exact .inr ⟨i, by simp [hi], y⟩
            · rcases x3 (by omega) c (.inr z) with y | ⟨i, hi, y⟩
              · exact .inl (Nat.le_trans d.2.1 y)
              · exact .inr ⟨i, by simp [hi], y⟩
          · rw [lvK_nil okk (by rw [List.map_append]; exact h2')] at hc'; simp at hc'
    · next xs ys a1 a2 =>
      obtain ⟨pa, ks, f1, f2⟩ := tup_inv a1
      obtain ⟨pb, ls, g1, g2⟩ := tup_inv a2
      subst f1
      subst g1
      subst f2
      subst g2
      obtain ⟨hl, q⟩ := q
      simp only [List.length_map] at hl
      have okx := ok'
      have oky := ok2
      simp only [OT.Ok] at okx oky
      rw [← List.map_append] at q
      have okk := okx.2.2.2.2.app oky.2.2.2.2
      simp only [OT.ls] at m2 m3 x2 x3
      obtain ⟨c, h3, hb, okc, k3⟩ := tup_add (X := XP S hE X) d2.1.n3 ok' ok2 hl
      rw [hb]
      refine ⟨.tup c (ks ++ ls), _, mv ++ mw, B2, rfl, okc, ⟨⟨fun _ c xs e => (by cases e), fun h2' => ?_⟩, fun c hc' => ?_, fun h2' c hc' => ?_, fun i hi => (List.mem_append.1 hi).elim (m4 i) (x4 i)⟩, d12.noA k3, by simpa [OT.d, dsL_map] using q⟩
      · simp only [OT.ls]
        split at h2'
        · next c =>
          have l1 := m1.2 (by omega)
          have l2 := x1.2 (by omega)
          simp only [OT.ls] at l1 l2
          have dis := mv_dis (t := lsL ks) (us := lsL ls) r d.2.1 c.2.2 (fun a ha => by simp only [OT.Ok] at ok; exact lsL_lt ok.2.2.2.2 a ha) (fun a ha => m3 (by omega) a ha) (fun a ha => x3 (by omega) a ha)
          rw [lsL_app]
          exact ⟨List.nodup_append.2 ⟨l1.1, l2.1, dis⟩, fun c hc' => (List.mem_append.1 hc').elim (l1.2 c) (l2.2 c)⟩
        · have : lsL (ks ++ ls) = [] := by
            unfold lv0 at h2'
            split at h2'
            · next z => exact nolsL_ls okk (by rw [dsL_map]; simpa [nols] using z)
            · omega
          rw [this]
          exact ⟨by simp, by simp⟩
      · simp only [OT.ls] at hc'
        rw [lsL_app, List.mem_append] at hc'
        exact hc'.elim (fun z => m2 c z) fun z => x2 c z
      · simp only [OT.ls] at hc'
        split at h2'
        · next c0 =>
          rw [lsL_app, List.mem_append] at hc'
          rcases hc' with z | z
          · rcases m3 (by omega) c z with y | ⟨i, hi, y⟩
            · exact .inl y
            · exact .inr ⟨i, by simp [hi], y⟩
          · rcases x3 (by omega) c z with y | ⟨i, hi, y⟩
            · exact .inl (Nat.le_trans d.2.1 y)
            · exact .inr ⟨i, by simp [hi], y⟩
        · have : lsL (ks ++ ls) = [] := by
            unfold lv0 at h2'
            split at h2'
            · next z => exact nolsL_ls okk (by rw [dsL_map]; simpa [nols] using z)
            · omega
          rw [this] at hc'; simp at hc'
    · obtain ⟨z, e, q⟩ := optQ_ex q
      refine okR_mono (op_ot (S := fun a => hE.n ≤ a ∨ S a) d2.1.n3 ok' ok2 m2 x2 ⟨ls_lt ok', ls_lt ok2⟩ e) fun v h3 ⟨t3, ev, ok3, ed, l3, al3, k3⟩ => ?_
      refine ⟨t3, z.2, [], B2, ev, ok3, ⟨l3.mono hn, fun a ha => (al3 a ha).elim (fun z => .inl (Nat.le_trans hn z)) id, fun h2' a ha => .inl (Nat.le_trans d12.2.1 ((l3.2 h2').2 a ha)), by simp⟩, d12.noA k3, by rw [ed]; exact q⟩
  | .ite c a b, hE, S, T, σv, σ, h, ts, B, Q, X, r, hk, st, q => by
    simp only [wV] at q
    simp only [evE, truthR]
    rw [okR_bind, okR_bind]
    refine okR_mono (sE' hc r hk st q) fun v h1 ⟨t, u, B1, ev, ok, l, al, d, q⟩ => ?_
    subst ev
    obtain ⟨z, e, q⟩ := optQ_ex q
    simp only [truth_ot ok e, okR_ok]
    have up : ∀ v h2, MP hE h1 S σv ts Q v h2 → MP hE h S σv ts Q v h2 := fun v h2 ⟨t, u, mv, B2, ev, ok, ⟨m1, m2, m3, m4⟩, d2, q⟩ => ⟨t, u, mv, B2, ev, ok, ⟨m1, m2, fun h2 a ha => (m3 h2 a ha).imp (Nat.le_trans d.2.1) id, m4⟩, d.trans d2, q⟩
    cases z with
    | true => exact okR_mono (sV V hc a (r.dr d) (hk.trans d.2) d.1 q) up
    | false => exact okR_mono (sV V hc b (r.dr d) (hk.trans d.2) d.1 q) up
  | .int _, hE, S, T, σv, σ, h, ts, B, Q, X, r, hk, st, q => mp_of hc r hk st q
  | .bl _, hE, S, T, σv, σ, h, ts, B, Q, X, r, hk, st, q => mp_of hc r hk st q
  | .non, hE, S, T, σv, σ, h, ts, B, Q, X, r, hk, st, q => mp_of hc r hk st q
  | .str _, hE, S, T, σv, σ, h, ts, B, Q, X, r, hk, st, q => mp_of hc r hk st q
  | .glo _, hE, S, T, σv, σ, h, ts, B, Q, X, r, hk, st, q => mp_of hc r hk st q
  | .bin .sub _ _, hE, S, T, σv, σ, h, ts, B, Q, X, r, hk, st, q => mp_of hc r hk st q
  | .bin .mul _ _, hE, S, T, σv, σ, h, ts, B, Q, X, r, hk, st, q => mp_of hc r hk st q
  | .bin .fdiv _ _, hE, S, T, σv, σ, h, ts, B, Q, X, r, hk, st, q => mp_of hc r hk st q
  | .bin .mod _ _, hE, S, T, σv, σ, h, ts, B, Q, X, r, hk, st, q => mp_of hc r hk st q
  | .bin .pow _ _, hE, S, T, σv, σ, h, ts, B, Q, X, r, hk, st, q => mp_of hc r hk st q
  | .bin .xor _ _, hE, S, T, σv, σ, h, ts, B, Q, X, r, hk, st, q => mp_of hc r hk st q
  | .neg _, hE, S, T, σv, σ, h, ts, B, Q, X, r, hk, st, q => mp_of hc r hk st q
  | .not _, hE, S, T, σv, σ, h, ts, B, Q, X, r, hk, st, q => mp_of hc r hk st q
  | .and _ _, hE, S, T, σv, σ, h, ts, B, Q, X, r, hk, st, q => mp_of hc r hk st q
  | .or _ _, hE, S, T, σv, σ, h, ts, B, Q, X, r, hk, st, q => mp_of hc r hk st q
  | .cmp _ _ _, hE, S, T, σv, σ, h, ts, B, Q, X, r, hk, st, q => mp_of hc r hk st q
  | .cmp2 _ _ _ _ _, hE, S, T, σv, σ, h, ts, B, Q, X, r, hk, st, q => mp_of hc r hk st q
  | .dct _, hE, S, T, σv, σ, h, ts, B, Q, X, r, hk, st, q => mp_of hc r hk st q
  | .lc _ _ _ _, hE, S, T, σv, σ, h, ts, B, Q, X, r, hk, st, q => mp_of hc r hk st q
  | .lcf _ _ _ _ _, hE, S, T, σv, σ, h, ts, B, Q, X, r, hk, st, q => mp_of hc r hk st q
  | .lc2 _ _ _ _ _ _ _, hE, S, T, σv, σ, h, ts, B, Q, X, r, hk, st, q => mp_of hc r hk st q
  | .dc _ _ _ _ _, hE, S, T, σv, σ, h, ts, B, Q, X, r, hk, st, q => mp_of hc r hk st q
  | .sub a i, hE, S, T, σv, σ, h, ts, B, Q, X, r, hk, st, q => by
    rw [wV] at q
    split at q
    · next p d u e =>
      obtain ⟨d0, e1, ok, e2, e3, e4⟩ := wP_ok (V := V) r e
      obtain ⟨s1, s2, s3⟩ := r.sl p.1 d0 u e1
      rw [e3, okR_ok]
      subst e2
      split at q
      · next hn =>
        have := nols_ls ok hn
        exact ⟨_, 2, [], B, rfl, ok, ⟨.nil this, fun a ha => s2 a ((part_sub p.2).subset ha), by simp [this], by simp⟩, .rfl' st, q⟩
      · next hn =>
        refine ⟨_, _, [p], B, rfl, ok, ⟨?_, fun a ha => s2 a ((part_sub p.2).subset ha), fun h2 a ha => ?_, fun j hj => ?_⟩, .rfl' st, q⟩
        · split
          · next hu =>
            obtain ⟨y1, y2⟩ := s1.2 (by omega)
            refine ⟨fun _ b xs ew => ?_, fun _ => ⟨y1.sublist (part_sub p.2), fun a ha => y2 a ((part_sub p.2).subset ha)⟩⟩
            have nd := y1.sublist (part_sub (t := ts p.1) p.2)
            rw [ew] at nd
            simp only [OT.ls, List.nodup_cons] at nd
            exact ⟨y2 b ((part_sub p.2).subset (by rw [ew]; simp [OT.ls])), nd.1⟩
          · exact .zero
        · split at h2
          · next hu => exact .inr ⟨p, by simp, d0, u, by omega, e1, ha⟩
          · omega
        · simp at hj
          subst hj
          refine ⟨d0, u, e1, ?_⟩
          cases hd : nols d0 with
          | false => rfl
          | true =>
            rw [← (r.tree e1).2.2] at hd
            exact absurd (nols_part hd) hn
    · exact mp_of hc r hk st q
  | .sl _ _ _, hE, S, T, σv, σ, h, ts, B, Q, X, r, hk, st, q => mp_of hc r hk st q
  | .call _ _, hE, S, T, σv, σ, h, ts, B, Q, X, r, hk, st, q => mp_of hc r hk st q
  | .callk _ _ _, hE, S, T, σv, σ, h, ts, B, Q, X, r, hk, st, q => mp_of hc r hk st q
  | .blt _ _, hE, S, T, σv, σ, h, ts, B, Q, X, r, hk, st, q => mp_of hc r hk st q
  | .isa _ _ _, hE, S, T, σv, σ, h, ts, B, Q, X, r, hk, st, q => mp_of hc r hk st q
  | .lstE _, hE, S, T, σv, σ, h, ts, B, Q, X, r, hk, st, q => mp_of hc r hk st q
  | .lstR1 _, hE, S, T, σv, σ, h, ts, B, Q, X, r, hk, st, q => mp_of hc r hk st q
  | .lstR2 _ _, hE, S, T, σv, σ, h, ts, B, Q, X, r, hk, st, q => mp_of hc r hk st q
  | .lstIt _, hE, S, T, σv, σ, h, ts, B, Q, X, r, hk, st, q => mp_of hc r hk st q
  | .tupE _, hE, S, T, σv, σ, h, ts, B, Q, X, r, hk, st, q => mp_of hc r hk st q
  | .dctE _, hE, S, T, σv, σ, h, ts, B, Q, X, r, hk, st, q => mp_of hc r hk st q
  | .bad, hE, S, T, σv, σ, h, ts, B, Q, X, r, hk, st, q => mp_of hc r hk st q
  | .lock _ _, hE, S, T, σv, σ, h, ts, B, Q, X, r, hk, st, q => mp_of hc r hk st q
  | .iso _, hE, S, T, σv, σ, h, ts, B, Q, X, r, hk, st, q => mp_of hc r hk st q
  | .meth _ _ _, hE, S, T, σv, σ, h, ts, B, Q, X, r, hk, st, q => mp_of hc r hk st q
  | .met _ _, hE, S, T, σv, σ, h, ts, B, Q, X, r, hk, st, q => mp_of hc r hk st q
theorem sVL (V : VC) (hc : SoundC V) : ∀ (es : L) {hE : AHp} {S : Nat → Prop} {T : List (OT × Nat)} {σv : VSl} {σ : Sl} {h : AHp} {ts : Nat → OT} {B : Nat} {Q : List PyData → Nat → List Pth → Nat → Prop} {X : WX}, RelS hE.n S T σv σ h ts → Keep (isStr 2 1) hE h → StrOk h 2 1 B → wV.wVL V es σv B Q X → okR (evL V.C es σ h) (MPL hE h S σv ts Q) (XP S hE X)
  | .nil, hE, S, T, σv, σ, h, ts, B, Q, X, r, hk, st, q => ⟨[], 2, [], B, rfl, by simp [OksL], ⟨by simp [lsL], fun _ => ⟨by simp [lsL], by simp [lsL], by simp [lsL]⟩, by simp⟩, .rfl' st, q⟩
  | .cons e rr, hE, S, T, σv, σ, h, ts, B, Q, X, r, hk, st, q => sVL_cons r hk (sV V hc e r hk st q) (fun r1 hk1 st1 q1 => sVL V hc rr r1 hk1 st1 q1)
  | .star _ _, hE, S, T, σv, σ, h, ts, B, Q, X, r, hk, st, q => q.elim
end
end AH

set_option Elab.async false
set_option linter.all false
set_option maxRecDepth 100000
set_option maxHeartbeats 1000000
/-! VW13: conditions, kept values, walks. -/
namespace AH
open PySem L2
def SoundAp (V : VX) : Prop := ∀ (t : OT) (h : AHp), t.Ok h 3 → t.ls.Nodup → V.ap t.d → okR (V.C.callf 28 [t.v] h) (fun v h' => v = .bl true ∧ Keep (fun a => a ∈ t.ls) h h') noX
/-- behind a statement -/
def NP (hE : AHp) (S : Nat → Prop) (T : List (OT × Nat)) (N : VSl → Nat → Prop) : Sl → AHp → Prop := fun σ' h' => ∃ (σv' : VSl) (ts' : Nat → OT) (B' : Nat), RelS hE.n S T σv' σ' h' ts' ∧ StrOk h' 2 1 B' ∧ Keep (isStr 2 1) hE h' ∧ N σv' B'
mutual
theorem OT.Ok.frame' {h h' : AHp} {lo : Nat} {L : Nat → Prop} (hn : h.n ≤ h'.n) (hL : ∀ a, L a → ∃ xs, h.get a = some (.lst xs)) (hg : ∀ a, a < h.n → ¬ L a → h'.get a = h.get a) : ∀ {t : OT}, t.Ok h lo → (∀ a ∈ t.ls, ¬ L a) → t.Ok h' lo
  | .sc v, q, _ => by simpa [OT.Ok] using q
  | .lst a xs, q, n => by
    simp only [OT.Ok] at q ⊢
    simp only [OT.ls, List.mem_cons] at n
    exact ⟨q.1, Nat.lt_of_lt_of_le q.2.1 hn, by rw [hg a q.2.1 (n a (.inl rfl))]; exact q.2.2.1, q.2.2.2.1, OksL.frame' hn hL hg q.2.2.2.2 fun b hb => n b (.inr hb)⟩
  | .tup a xs, q, n => by
    simp only [OT.Ok] at q ⊢
    simp only [OT.ls] at n
    refine ⟨q.1, Nat.lt_of_lt_of_le q.2.1 hn, ?_, q.2.2.2.1, OksL.frame' hn hL hg q.2.2.2.2 n⟩
    rw [hg a q.2.1 (fun z => by obtain ⟨ys, e⟩ := hL a z; rw [q.2.2.1] at e; cases e)]
    exact q.2.2.1
  | .edct a, q, n => by
    simp only [OT.Ok] at q ⊢
    refine ⟨q.1, Nat.lt_of_lt_of_le q.2.1 hn, ?_⟩
    rw [hg a q.2.1 (fun z => by obtain ⟨ys, e⟩ := hL a z; rw [q.2.2] at e; cases e)]
    exact q.2.2
theorem OksL.frame' {h h' : AHp} {lo : Nat} {L : Nat → Prop} (hn : h.n ≤ h'.n) (hL : ∀ a, L a → ∃ xs, h.get a = some (.lst xs)) (hg : ∀ a, a < h.n → ¬ L a → h'.get a = h.get a) : ∀ {ts : List OT}, OksL h lo ts → (∀ a ∈ lsL ts, ¬ L a) → OksL h' lo ts
  | [], q, _ => by simp [OksL]
  | t :: r, q, n => by
    simp only [OksL] at q ⊢
    simp only [lsL, List.mem_append] at n
    exact ⟨OT.Ok.frame' hn hL hg q.1 fun a ha => n a (.inl ha), OksL.frame' hn hL hg q.2 fun a ha => n a (.inr ha)⟩
end
section
variable {hE : AHp} {n0 : Nat} {S : Nat → Prop} {T : List (OT × Nat)} {σv : VSl} {σ : Sl} {h : AHp} {ts : Nat → OT}
theorem RelS.kill1 {i : Nat} (r : RelS n0 S T σv σ h ts) (hi : ∀ v, σ[i]? = some (some v) → flatA v = false) : RelS n0 S T (σv.set i .no) σ h ts := by
  have get : ∀ {j d' u'}, (σv.set i VS.no)[j]? = some (VS.v d' u') → σv[j]? = some (VS.v d' u') ∧ j ≠ i := by
    intro j d' u' e
    by_cases ej : i = j
    · subst ej
      rw [List.getElem?_set, if_pos rfl] at e
      split at e <;> cases e
    · rw [List.getElem?_set_ne ej] at e
      exact ⟨e, Ne.symm ej⟩
  refine ⟨⟨by simpa using r.e.1, fun j => ?_⟩, fun j d u e => ?_, fun p hp => ⟨(r.tp p hp).1, (r.tp p hp).2.1, (r.tp p hp).2.2.1, fun a ha j d u e => (r.tp p hp).2.2.2 a ha j d u (get e).1⟩, r.pw, r.n⟩
  · by_cases ej : i = j
    · subst ej
      rw [List.getElem?_set, if_pos rfl]
      split
      · exact hi
      · trivial
    · rw [List.getElem?_set_ne ej]; exact r.e.2 j
  · obtain ⟨s1, s2, s3⟩ := r.sl j d u (get e).1
    exact ⟨s1, s2, fun a ha => ⟨fun k d' u' hk ek => (s3 a ha).1 k d' u' hk (get ek).1, (s3 a ha).2⟩⟩
theorem RelS.kill : ∀ {mv : List Pth} {σv : VSl}, RelS n0 S T σv σ h ts → (∀ i ∈ mv, ∀ v, σ[i.1]? = some (some v) → flatA v = false) → RelS n0 S T (kill σv mv) σ h ts
  | [], σv, r, _ => r
  | i :: m, σv, r, hm => by
    show RelS n0 S T (AH.kill (σv.set i.1 .no) m) σ h ts
    exact RelS.kill (r.kill1 (hm i (by simp))) fun j hj => hm j (by simp [hj])
theorem kill_get {j : Nat} {d : PyData} {u : Nat} : ∀ {mv : List Pth} {σv : VSl}, (AH.kill σv mv)[j]? = some (VS.v d u) → σv[j]? = some (VS.v d u) ∧ ∀ i ∈ mv, j ≠ i.1
  | [], σv, e => ⟨e, by simp⟩
  | i :: m, σv, e => by
    obtain ⟨h1, h2⟩ := kill_get (mv := m) e
    by_cases ej : i.1 = j
    · subst ej
      rw [List.getElem?_set, if_pos rfl] at h1
      split at h1 <;> cases h1
    · rw [List.getElem?_set_ne ej] at h1
      exact ⟨h1, fun k hk => (List.mem_cons.1 hk).elim (fun e => by subst e; exact Ne.symm ej) (h2 k)⟩
theorem RelS.noflat (r : RelS n0 S T σv σ h ts) {i : Nat} {d : PyData} {w : Nat} (e : σv[i]? = some (VS.v d w)) (hd : nols d = false) : ∀ v, σ[i]? = some (some v) → flatA v = false := by
  intro v ev
  obtain ⟨e1, ok, e2⟩ := r.tree e
  rw [e1] at ev
  cases ev
  cases ht : ts i with
  | sc v =>
    rw [ht] at ok e2
    subst e2
    cases v <;> simp [OT.d, avD, nols] at hd
  | _ => rfl
theorem RelS.spoil {L : List Nat} {h' : AHp} (r : RelS n0 S T σv σ h ts) (k : Keep (fun a => a ∈ L) h h') (hL : ∀ a ∈ L, ∃ xs, h.get a = some (.lst xs)) (h1 : ∀ i d u, σv[i]? = some (VS.v d u) → ∀ a ∈ (ts i).ls, a ∉ L) (h2 : ∀ p ∈ T, ∀ a ∈ p.1.ls, a ∉ L) : RelS n0 S T σv σ h' ts := by
  refine ⟨⟨r.e.1, fun j => ?_⟩, r.sl, fun p hp => ⟨(r.tp p hp).1.frame' (L := fun a => a ∈ L) k.1 hL (fun a ha hn => k.2 a ha hn) (h2 p hp), (r.tp p hp).2⟩, r.pw, Nat.le_trans r.n k.1⟩
  have := r.e.2 j
  revert this
  unfold R1
  cases hv : σv[j]? with
  | none => exact id
  | some x =>
    cases x with
    | no => exact id
    | strm => exact id
    | v d' u' =>
      intro this
      exact ⟨this.1, this.2.1.frame' (L := fun a => a ∈ L) k.1 hL (fun a ha hn => k.2 a ha hn) (h1 j d' u' hv), this.2.2⟩
/-- what is new or shared is nobody's own, behind clearing -/
theorem RelS.free_sh {vs : List Nat} {X : Nat → Prop} (r : RelS n0 S T σv σ h ts) (hX : ∀ a, X a → h.n ≤ a ∨ Sh vs σv ts a) : Free n0 S T (clr σv vs) ts X := by
  refine ⟨fun i d u e a ha hx => ?_, fun p hp a ha hx => ?_, fun a hx => ?_⟩
  · obtain ⟨w, e1, e2⟩ := (Le.clr (σv := σv) (vs := vs)).get e
    have hw : u = w := by
      rcases e2 with e2 | e2
      · exact e2
      · subst e2; simp [own0] at ha
    subst hw
    rcases hX a hx with z | ⟨k, hk, d2, u2, e3, z⟩
    · have := ls_lt (r.tree e1).2.1 a (own_sub ha); omega
    · by_cases hki : k = i
      · subst hki
        have := (clr_get vs σv).2 hk d u e
        subst this
        simp [own0] at ha
      · exact ((r.sl i d u e1).2.2 a ha).1 k d2 u2 hki e3 z
  · rcases hX a hx with z | ⟨k, hk, d2, u2, e3, z⟩
    · have := ls_lt (r.tp p hp).1 a (own_sub ha); omega
    · exact (r.tp p hp).2.2.2 a ha k d2 u2 e3 z
  · rcases hX a hx with z | z
    · exact .inl (Nat.le_trans r.n z)
    · exact r.sh z
theorem RelS.push0 {t : OT} (r : RelS n0 S T σv σ h ts) (ok : t.Ok h 3) (f : Free n0 S T σv ts (fun a => a ∈ t.ls)) : RelS n0 S ((t, 0) :: T) σv σ h ts := by
  refine ⟨r.e, fun i d u e => ?_, fun p hp => ?_, List.pairwise_cons.2 ⟨fun q hq => ⟨fun a ha => by simp [own0] at ha, fun a ha => f.2.1 q hq a ha⟩, r.pw⟩, r.n⟩
  · obtain ⟨s1, s2, s3⟩ := r.sl i d u e
    refine ⟨s1, s2, fun a ha => ⟨(s3 a ha).1, fun p hp => ?_⟩⟩
    rcases List.mem_cons.1 hp with z | z
    · subst z; exact f.1 i d u e a ha
    · exact (s3 a ha).2 p z
  · rcases List.mem_cons.1 hp with z | z
    · subst z; exact ⟨ok, .zero, f.2.2, fun a ha => by simp [own0] at ha⟩
    · exact r.tp p z
theorem RelS.pushE {X : Nat → Prop} : ∀ {E : List OT} {T : List (OT × Nat)}, RelS n0 S T σv σ h ts → (∀ t ∈ E, t.Ok h 3 ∧ ∀ a ∈ t.ls, X a) → Free n0 S T σv ts X → RelS n0 S (E.map (fun t => (t, 0)) ++ T) σv σ h ts
  | [], T, r, _, _ => r
  | t :: E, T, r, hE, f => by
    have r1 := RelS.pushE (E := E) r (fun t ht => hE t (by simp [ht])) f
    refine r1.push0 (hE t (by simp)).1 ⟨fun i d u e a ha hx => f.1 i d u e a ha ((hE t (by simp)).2 a hx), fun p hp a ha hx => ?_, fun a hx => f.2.2 a ((hE t (by simp)).2 a hx)⟩
    rcases List.mem_append.1 hp with z | z
    · obtain ⟨y, _, e⟩ := List.mem_map.1 z
      subst e
      simp [own0] at ha
    · exact f.2.1 p z a ha ((hE t (by simp)).2 a hx)
/-- kept values go to slots -/
theorem RelS.pops : ∀ {us : List (OT × Nat)} {is : List Nat} {σv : VSl} {σ : Sl} {ts : Nat → OT}, RelS n0 S (us ++ T) σv σ h ts → us.length = is.length → ∃ ts', RelS n0 S T (setV σv is (us.map fun p => (p.1.d, p.2))) ((is.zip (us.map fun p => p.1.v)).foldl (fun s p => s.set p.1 (some p.2)) σ) h ts'
  | [], [], σv, σ, ts, r, _ => ⟨ts, r⟩
  | [], _ :: _, σv, σ, ts, r, e => by simp at e
  | _ :: _, [], σv, σ, ts, r, e => by simp at e
  | p :: us, i :: is, σv, σ, ts, r, e => by
    have r1 : RelS n0 S (us ++ T) _ _ h _ := RelS.pop (t := p.1) (u := p.2) r i
    obtain ⟨ts', r2⟩ := RelS.pops (us := us) (is := is) r1 (by simpa using e)
    exact ⟨ts', r2⟩
theorem sU {V : VC} (hc : SoundC V) : ∀ (es : L) {T : List (OT × Nat)} {σv : VSl} {h : AHp} {B : Nat} {Q : List (PyData × Nat) → VSl → Nat → Prop} {X : WX}, RelS hE.n S T σv σ h ts → Keep (isStr 2 1) hE h → StrOk h 2 1 B → wU V es σv B Q X → okR (evL V.C es σ h) (fun vs h' => ∃ (us : List (OT × Nat)) (σv' : VSl) (B' : Nat), vs = us.map (fun p => p.1.v) ∧ RelS hE.n S (us ++ T) σv' σ h' ts ∧ DrV B' h h' ∧ Q (us.map fun p => (p.1.d, p.2)) σv' B') (XP S hE X)
  | .nil, T, σv, h, B, Q, X, r, hk, st, q => ⟨[], σv, B, rfl, r, .rfl' st, q⟩
  | .cons e rr, T, σv, h, B, Q, X, r, hk, st, q => by
    simp only [evL]
    simp only [wU] at q
    rw [okR_bind]
    refine okR_mono (sE' hc r hk st q) fun v h1 ⟨t, u, B1, ev, ok, l, al, d, q⟩ => ?_
    subst ev
    have r1 := r.push (vs := vsE e) d ok l al
    rw [okR_bind]
    refine okR_mono (sU hc rr r1 (hk.trans d.2) d.1 q) fun vs h2 ⟨us, σv2, B2, ev, r2, d2, q⟩ => ?_
    subst ev
    exact ⟨(t, u) :: us, σv2, B2, rfl, r2.perm List.perm_middle, d.trans d2, q⟩
  | .star _ _, T, σv, h, B, Q, X, r, hk, st, q => q.elim
def CP (hE : AHp) (S : Nat → Prop) (T : List (OT × Nat)) (σ : Sl) (ts : Nat → OT) (bo : Bool) (Q : Bool → VSl → Nat → Prop) : QV := fun v h' => ∃ (t : Bool) (σv' : VSl) (B' : Nat), truth h' v = some t ∧ (bo = true → v = .bl t) ∧ RelS hE.n S T σv' σ h' ts ∧ StrOk h' 2 1 B' ∧ Keep (isStr 2 1) hE h' ∧ Q t σv' B'
theorem cp_of {V : VX} (hc : SoundC V.toVC) {bo : Bool} {e : E} {B : Nat} {Q : Bool → VSl → Nat → Prop} {X : WX} (r : RelS hE.n S T σv σ h ts) (hk : Keep (isStr 2 1) hE h) (st : StrOk h 2 1 B)
    (q : wE V.toVC e σv B (fun d _ B1 => if bo = true then (match d with | .bool t => Q t σv B1 | _ => False) else optQ (truthD d) fun t => Q t σv B1) X) : okR (evE V.C e σ h) (CP hE S T σ ts bo Q) (XP S hE X) := by
  refine okR_mono (sE' hc r hk st q) fun v h1 ⟨t, u, B1, ev, ok, l, al, d, q⟩ => ?_
  subst ev
  have r1 := r.dr d
  split at q
  · split at q
    · next b e => exact ⟨b, σv, B1, truth_ot ok (by rw [e]; rfl), fun _ => by rw [(sc_inv ok).2.1 _ e]; rfl, r1, d.1, hk.trans d.2, q⟩
    · exact q.elim
  · next hb =>
    obtain ⟨b, e, q⟩ := optQ_ex q
    exact ⟨b, σv, B1, truth_ot ok e, fun z => absurd z hb, r1, d.1, hk.trans d.2, q⟩
theorem ap_ok {V : VX} (hc : SoundC V.toVC) (ha : SoundAp V) {bo : Bool} {e : E} {B : Nat} {Q : Bool → VSl → Nat → Prop} {X : WX} (r : RelS hE.n S T σv σ h ts) (hk : Keep (isStr 2 1) hE h) (st : StrOk h 2 1 B)
    (q : wV V.toVC e σv B (fun d u mv B1 => u = 2 ∧ V.ap d ∧ Q true (AH.kill σv mv) B1) X) : okR (evE V.C (.call 28 (.cons e .nil)) σ h) (CP hE S T σ ts bo Q) (XP S hE X) := by
  simp only [evE, evL, okR_bind, okR_ok]
  refine okR_mono (sV V.toVC hc e r hk st q) fun v h1 ⟨t, u, mv, B1, ev, ok, ⟨m1, m2, m3, m4⟩, d, e2, ap, q⟩ => ?_
  subst ev
  subst e2
  have l2 := m1.2 (Nat.le_refl _)
  refine okR_to (ha t h1 ok l2.1 ap) fun v h2 ⟨ev, k2⟩ => ?_
  subst ev
  have r1 := r.dr d
  have r2 := r1.kill (mv := mv) fun i hi => by
    obtain ⟨d', w, e, hn⟩ := m4 i hi
    exact r1.noflat e hn
  have dis : ∀ a ∈ t.ls, h.n ≤ a ∨ ∃ i ∈ mv, ∃ d w, 2 ≤ w ∧ σv[i.1]? = some (VS.v d w) ∧ a ∈ ((ts i.1).part i.2).ls := m3 (Nat.le_refl _)
  refine ⟨true, _, B1, rfl, fun _ => rfl, r2.spoil k2 ok.isl (fun i d' u' e a ha hat => ?_) (fun p hp a ha hat => ?_), d.1.keep k2 (fun z => by have := (ok.ls_ge 2 z).1; omega) (fun z => by have := (ok.ls_ge 1 z).1; omega), (hk.trans d.2).later k2 fun i z => .inr (l2.2 i z), q⟩
  · obtain ⟨e1, e2⟩ := kill_get e
    have h1 := ls_lt (r.tree e1).2.1 a ha
    rcases dis a hat with z | ⟨k, hk, d2, w, hw, e3, z⟩
    · omega
    · refine ((r.sl k.1 d2 w e3).2.2 a ?_).1 i d' u' (e2 k hk) e1 ha
      unfold own; rw [if_pos hw]; exact (part_sub k.2).subset z
  · have h1 := ls_lt (r.tp p hp).1 a ha
    rcases dis a hat with z | ⟨k, hk, d2, w, hw, e3, z⟩
    · omega
    · refine ((r.sl k.1 d2 w e3).2.2 a ?_).2 p hp ha
      unfold own; rw [if_pos hw]; exact (part_sub k.2).subset z
theorem sC_and {V : VX} {bo : Bool} {a b : E} {Q : Bool → VSl → Nat → Prop} {X : WX} {W : VSl → Nat → Prop} (iha : okR (evE V.C a σ h) (CP hE S T σ ts bo (fun t σ1 B1 => if t = true then W σ1 B1 else Q false σ1 B1)) (XP S hE X))
    (ihb : ∀ {σv : VSl} {h : AHp} {B : Nat}, RelS hE.n S T σv σ h ts → Keep (isStr 2 1) hE h → StrOk h 2 1 B → W σv B → okR (evE V.C b σ h) (CP hE S T σ ts bo Q) (XP S hE X)) : okR (evE V.C (.and a b) σ h) (CP hE S T σ ts bo Q) (XP S hE X) := by
  simp only [evE, okR_bind]
  refine okR_mono iha fun v h1 ⟨t, σ1, B1, et, eb, r1, st1, k1, q⟩ => ?_
  simp only [et]
  cases t with
  | true => exact ihb r1 k1 st1 q
  | false => exact ⟨false, σ1, B1, et, eb, r1, st1, k1, q⟩
theorem sC_or {V : VX} {bo : Bool} {a b : E} {Q : Bool → VSl → Nat → Prop} {X : WX} {W : VSl → Nat → Prop} (iha : okR (evE V.C a σ h) (CP hE S T σ ts bo (fun t σ1 B1 => if t = true then Q true σ1 B1 else W σ1 B1)) (XP S hE X))
    (ihb : ∀ {σv : VSl} {h : AHp} {B : Nat}, RelS hE.n S T σv σ h ts → Keep (isStr 2 1) hE h → StrOk h 2 1 B → W σv B → okR (evE V.C b σ h) (CP hE S T σ ts bo Q) (XP S hE X)) : okR (evE V.C (.or a b) σ h) (CP hE S T σ ts bo Q) (XP S hE X) := by
  simp only [evE, okR_bind]
  refine okR_mono iha fun v h1 ⟨t, σ1, B1, et, eb, r1, st1, k1, q⟩ => ?_
  simp only [et]
  cases t with
  | false => exact ihb r1 k1 st1 q
  | true => exact ⟨true, σ1, B1, et, eb, r1, st1, k1, q⟩
theorem sC_not {V : VX} {bo : Bool} {a : E} {Q : Bool → VSl → Nat → Prop} {X : WX} (iha : okR (evE V.C a σ h) (CP hE S T σ ts false (fun t σ1 B1 => Q (!t) σ1 B1)) (XP S hE X)) : okR (evE V.C (.not a) σ h) (CP hE S T σ ts bo Q) (XP S hE X) := by
  simp only [evE, truthR, okR_bind]
  refine okR_mono iha fun v h1 ⟨t, σ1, B1, et, eb, r1, st1, k1, q⟩ => ?_
  simp only [et]
  exact ⟨!t, σ1, B1, rfl, fun _ => rfl, r1, st1, k1, q⟩
end
end AH

set_option Elab.async false
set_option linter.all false
set_option maxRecDepth 100000
set_option maxHeartbeats 1000000
/-! VW14: statements. -/
namespace AH
open PySem L2
section
variable {hE : AHp} {S : Nat → Prop} {T : List (OT × Nat)} {σv : VSl} {σ : Sl} {h : AHp} {ts : Nat → OT}
theorem ownL_ex {i : Nat} {Q : List PyData → Nat → Prop} (q : ownL σv i Q) : ∃ xs w, σv[i]? = some (VS.v (.list xs) w) ∧ 1 ≤ w ∧ Q xs w := by
  unfold ownL at q
  split at q
  · next xs w e => exact ⟨xs, w, e, q.1, q.2⟩
  · exact q.elim
theorem RelS.own_facts {i w : Nat} {xs : List PyData} (r : RelS hE.n S T σv σ h ts) (e : σv[i]? = some (VS.v (.list xs) w)) : ∃ a ks, ts i = .lst a ks ∧ xs = ks.map OT.d ∧ σ[i]? = some (some (.ref a)) ∧ h.get a = some (.lst (ks.map OT.v)) ∧ OksL h 3 ks ∧ ks.length < 16777216 ∧ 3 ≤ a := by
  obtain ⟨e1, ok, e2⟩ := r.tree e
  obtain ⟨a, ks, f1, f2⟩ := lst_inv e2
  rw [f1] at ok e1
  have ok' := ok
  simp only [OT.Ok] at ok'
  exact ⟨a, ks, f1, f2, e1, ok'.2.2.1, ok'.2.2.2.2, ok'.2.2.2.1, ok'.1⟩
/-- a list of one's own, changed by a kept value -/
theorem mut_np {i w u B a : Nat} {t : OT} {ks ks' : List OT} {xs : List PyData} {N : VSl → Nat → Prop} {f : Nat} (r : RelS hE.n S ((t, u) :: T) σv σ h ts) (st : StrOk h 2 1 B) (hk : Keep (isStr 2 1) hE h) (e : σv[i]? = some (VS.v (.list xs) w)) (hw : 1 ≤ w) (ht : ts i = .lst a ks) (h3 : 3 ≤ a) (hs : ∀ x ∈ lsL ks', x ∈ lsL ks ∨ x ∈ t.ls) (hok : OksL h 3 ks') (hl : ks'.length < 16777216)
    (hf : f ≤ 1 ∨ (2 ≤ w ∧ (lsL ks').Nodup ∧ (2 ≤ u ∨ ∀ x ∈ lsL ks', x ∈ lsL ks))) (q : N (σv.set i (.v (.list (ks'.map OT.d)) f)) B) : NP hE S T N σ (h.set a (.lst (ks'.map OT.v))) := by
  have l1 := (r.sl i _ w e).1
  rw [ht] at l1
  have ha := (l1.1 hw a ks rfl).1
  refine ⟨_, _, B, r.mut e hw ht hs hok hl hf, ?_, ?_, q⟩
  · exact StrOk.keep (A := fun b => b = a) (Keep.set rfl) (fun z => by omega) (fun z => by omega) st
  · exact hk.later (B := fun b => b = a) (.set rfl) fun b z => .inr (by omega)
theorem s_app {V : VX} (hc : SoundC V.toVC) {i B : Nat} {e : E} {N : VSl → Nat → Prop} {R : WQ} {X : WX} {R' : QV} (r : RelS hE.n S T σv σ h ts) (hk : Keep (isStr 2 1) hE h) (st : StrOk h 2 1 B) (q : wS V (.ex (.meth .append (.var i) (.cons e .nil))) σv B N R X) : okS (evS V.C (.ex (.meth .append (.var i) (.cons e .nil))) σ h) (NP hE S T N) R' (XP S hE X) := by
  simp only [wS] at q
  obtain ⟨xs0, w0, e0, _, q⟩ := ownL_ex q
  obtain ⟨a0, ks0, f1, f2, f3, f4, f5⟩ := r.own_facts e0
  simp only [s_ex', e_meth, e_var, f3, okR_ok, mOk_lst f4 (.inl rfl), if_true, l_cs, l_nl]
  refine okR_mono (sE' hc r hk st q) fun v h1 ⟨t, u, B1, ev, ok, l, al, d, q⟩ => ?_
  subst ev
  have r1 := r.push (vs := vsE e) d ok l al
  obtain ⟨xs, w, e1, hw, hl, q⟩ := ownL_ex q
  obtain ⟨a, ks, g1, g2, g3, g4, g5, g6, g7⟩ := r1.own_facts e1
  have ea : a = a0 := by rw [f1] at g1; cases g1; rfl
  subst ea
  subst g2
  simp only [List.length_map] at hl
  rw [o_append g4 (by simp; omega)]
  have em : ks.map OT.v ++ [t.v] = (ks ++ [t]).map OT.v := by simp
  have ed : ks.map OT.d ++ [t.d] = (ks ++ [t]).map OT.d := by simp
  rw [em]
  rw [ed] at q
  obtain ⟨s1, s2, s3⟩ := r1.sl i _ w e1
  rw [g1] at s1 s3
  refine mut_np r1 d.1 (hk.trans d.2) e1 hw g1 g7 (fun x hx => ?_) (g5.app (.one ok)) (by simp; omega) ?_ q
  · rw [lsL_app, List.mem_append] at hx
    exact hx.imp id fun z => by simpa [lsL] using z
  · unfold lvM
    split
    · next hu =>
      by_cases h2 : 2 ≤ w
      · right
        refine ⟨h2, ?_, .inl (by omega)⟩
        have n1 := (s1.2 h2).1
        have n2 := (l.2 (by omega)).1
        simp only [OT.ls, List.nodup_cons] at n1
        rw [lsL_app, List.nodup_append]
        refine ⟨n1.2, by simpa [lsL] using n2, fun x hx y hy e => ?_⟩
        subst e
        refine (s3 x ?_).2 (t, u) (by simp) (by simpa [lsL] using hy)
        unfold own; rw [if_pos h2]; simp [OT.ls, hx]
      · left; omega
    · left; omega
theorem s_ext {V : VX} (hc : SoundC V.toVC) {i B : Nat} {e : E} {N : VSl → Nat → Prop} {R : WQ} {X : WX} {R' : QV} (r : RelS hE.n S T σv σ h ts) (hk : Keep (isStr 2 1) hE h) (st : StrOk h 2 1 B) (q : wS V (.ex (.meth .extend (.var i) (.cons e .nil))) σv B N R X) : okS (evS V.C (.ex (.meth .extend (.var i) (.cons e .nil))) σ h) (NP hE S T N) R' (XP S hE X) := by
  simp only [wS] at q
  obtain ⟨xs0, w0, e0, _, q⟩ := ownL_ex q
  obtain ⟨a0, ks0, f1, f2, f3, f4, f5⟩ := r.own_facts e0
  simp only [s_ex', e_meth, e_var, f3, okR_ok, mOk_lst f4 (.inr (.inl rfl)), if_true, l_cs, l_nl]
  refine okR_mono (sE' hc r hk st q) fun v h1 ⟨t, u, B1, ev, ok, l, al, d, q⟩ => ?_
  subst ev
  dsimp only at q
  split at q
  · next ys ey =>
    obtain ⟨b, us, y1, y2⟩ := lst_inv ey
    subst y1
    subst y2
    have ok' := ok
    simp only [OT.Ok] at ok'
    have main : ∀ (u' : Nat), (u' = u ∨ (u' = 2 ∧ lsL us = [])) → (ownL (esc σv (vsE e) u') i fun xs w => xs.length + (us.map OT.d).length < 16777216 ∧ N ((esc σv (vsE e) u').set i (.v (.list (xs ++ us.map OT.d)) (lvM w u'))) B1) → okR (methA .extend h1 (.ref a0) [.ref b]) (fun _ h2 => NP hE S T N σ h2) (XP S hE X) := by
      intro u' hu' q
      have r1 : ∃ t' : OT, RelS hE.n S ((t', u') :: T) (esc σv (vsE e) u') σ h1 ts ∧ (∀ x ∈ lsL us, x ∈ t'.ls) ∧ (2 ≤ u' → (lsL us).Nodup) := by
        rcases hu' with e1 | ⟨e1, e2⟩
        · subst e1
          refine ⟨_, r.push (vs := vsE e) d ok l al, fun x hx => by simp [OT.ls, hx], fun h2 => ?_⟩
          have := (l.2 h2).1
          simp only [OT.ls, List.nodup_cons] at this
          exact this.2
        · subst e1
          exact ⟨.sc .non, r.push (vs := vsE e) (t := .sc .non) (u := 2) d (by simp [OT.Ok, avOk]) .sc (by simp [OT.ls]), by simp [e2], by simp [e2]⟩
      obtain ⟨t', r1, p1, p2⟩ := r1
      obtain ⟨xs, w, e1, hw, hl, q⟩ := ownL_ex q
      obtain ⟨a, ks, g1, g2, g3, g4, g5, g6, g7⟩ := r1.own_facts e1
      have ea : a = a0 := by rw [f1] at g1; cases g1; rfl
      subst ea
      subst g2
      simp only [List.length_map] at hl
      rw [o_extend g4 ok'.2.2.1 (by simp; omega), ← List.map_append]
      rw [← List.map_append] at q
      obtain ⟨s1, s2, s3⟩ := r1.sl i _ w e1
      rw [g1] at s1 s3
      refine mut_np r1 d.1 (hk.trans d.2) e1 hw g1 g7 (fun x hx => ?_) (g5.app ok'.2.2.2.2) (by simp; omega) ?_ q
      · rw [lsL_app, List.mem_append] at hx
        exact hx.imp id (p1 x)
      · unfold lvM
        split
        · next hu =>
          by_cases h2 : 2 ≤ w
          · right
            refine ⟨h2, ?_, .inl (by omega)⟩
            have n1 := (s1.2 h2).1
            simp only [OT.ls, List.nodup_cons] at n1
            rw [lsL_app, List.nodup_append]
            refine ⟨n1.2, p2 (by omega), fun x hx y hy e => ?_⟩
            subst e
            refine (s3 x ?_).2 (t', u') (by simp) (p1 x hy)
            unfold own; rw [if_pos h2]; simp [OT.ls, hx]
          · left; omega
        · left; omega
    refine main _ ?_ q
    split
    · next hn => exact .inr ⟨rfl, nolsL_ls ok'.2.2.2.2 (by rw [dsL_map]; exact hn)⟩
    · exact .inl rfl
  · exact q.elim
theorem setIx_ok {a : Nat} {ks : List OT} {j : Int} {k : Nat} {v : AV} (g : h.get a = some (.lst (ks.map OT.v))) (e : ixN (ks.map OT.d).length j = some k) : setIxA h (.ref a) (.int j) v = some (h.set a (.lst ((ks.map OT.v).set k v))) := o_setl g (by simpa using e)
theorem s_six {V : VX} (hc : SoundC V.toVC) {i B : Nat} {ix e : E} {N : VSl → Nat → Prop} {R : WQ} {X : WX} {R' : QV} (r : RelS hE.n S T σv σ h ts) (hk : Keep (isStr 2 1) hE h) (st : StrOk h 2 1 B) (q : wS V (.setix (.var i) ix e) σv B N R X) : okS (evS V.C (.setix (.var i) ix e) σ h) (NP hE S T N) R' (XP S hE X) := by
  simp only [wS] at q
  simp only [s_setix', e_var]
  refine okR_mono (sE' hc r hk st q) fun v h1 ⟨t, u, B1, ev, ok, l, al, d, q⟩ => ?_
  subst ev
  have r1 := r.push (vs := vsE e) d ok l al
  obtain ⟨xs, w, e1, hw, q⟩ := ownL_ex q
  obtain ⟨a, ks, g1, g2, g3, g4, g5, g6, g7⟩ := r1.own_facts e1
  simp only [g3, okR_ok]
  refine okR_mono (sE' hc r1 (hk.trans d.2) d.1 q) fun v2 h2 ⟨t2, u2, B2, ev, ok2, l2, al2, d2, q⟩ => ?_
  subst ev
  have q' := int_of ok2 q
  clear q
  obtain ⟨j, e2, q⟩ := q'
  subst e2
  obtain ⟨k, ek, q⟩ := optQ_ex q
  have r2 := r1.dr d2
  obtain ⟨a', ks', g1', g2', g3', g4', g5', g6', g7'⟩ := r2.own_facts e1
  rw [g1] at g1'
  cases g1'
  subst g2
  simp only [OT.v]
  rw [setIx_ok g4' ek]
  simp only
  have em : (ks.map OT.v).set k t.v = (ks.set k t).map OT.v := by rw [List.map_set]
  have ed : (ks.map OT.d).set k t.d = (ks.set k t).map OT.d := by rw [List.map_set]
  show NP hE S T N σ (h2.set a (.lst ((ks.map OT.v).set k t.v)))
  rw [em]
  rw [ed] at q
  obtain ⟨s1, s2, s3⟩ := r2.sl i _ w e1
  rw [g1] at s1 s3
  refine mut_np r2 d2.1 ((hk.trans d.2).trans d2.2) e1 hw g1 g7 (fun x hx => ?_) ?_ (by simp; omega) ?_ q
  · obtain ⟨y, hy, hx'⟩ := lsL_mem.1 hx
    rcases List.mem_or_eq_of_mem_set hy with z | z
    · exact .inl (lsL_mem.2 ⟨y, z, hx'⟩)
    · rw [z] at hx'; exact .inr hx'
  · rw [OksL_iff]
    intro y hy
    rcases List.mem_or_eq_of_mem_set hy with z | z
    · exact OksL_iff.1 g5' y z
    · subst z; exact ok.dr d2
  · unfold lvM
    split
    · next hu =>
      by_cases h2 : 2 ≤ w
      · right
        refine ⟨h2, ?_, .inl (by omega)⟩
        have n1 := (s1.2 h2).1
        simp only [OT.ls, List.nodup_cons] at n1
        refine ls_set_nodup n1.2 (l.2 (by omega)).1 fun x hx z => ?_
        refine (s3 x ?_).2 (t, u) (by simp) hx
        unfold own; rw [if_pos h2]; simp [OT.ls, z]
      · left; omega
    · left; omega
theorem s_aix {V : VX} (hc : SoundC V.toVC) {i B : Nat} {ix e : E} {op : BOp} {N : VSl → Nat → Prop} {R : WQ} {X : WX} {R' : QV} (r : RelS hE.n S T σv σ h ts) (hk : Keep (isStr 2 1) hE h) (st : StrOk h 2 1 B) (q : wS V (.augIx (.var i) ix op e) σv B N R X) : okS (evS V.C (.augIx (.var i) ix op e) σ h) (NP hE S T N) R' (XP S hE X) := by
  simp only [wS] at q
  obtain ⟨xs, w, e1, hw, q⟩ := ownL_ex q
  obtain ⟨a, ks, g1, g2, g3, g4, g5, g6, g7⟩ := r.own_facts e1
  simp only [evS, okS_sbind, e_var, g3, okR_ok]
  refine okR_mono (sE' hc r hk st q) fun v h1 ⟨t, u, B1, ev, ok, l, al, d, q⟩ => ?_
  subst ev
  have q' := int_of ok q
  clear q
  obtain ⟨j, e2, q⟩ := q'
  subst e2
  obtain ⟨k, ek, q⟩ := optQ_ex q
  have r1 := r.dr d
  obtain ⟨a1, ks1, p1, p2, p3, p4, p5, p6, p7⟩ := r1.own_facts e1
  rw [g1] at p1
  cases p1
  subst g2
  split at q
  · next x ex =>
    rw [List.getElem?_map, Option.map_eq_some_iff] at ex
    obtain ⟨tk, f1, f2⟩ := ex
    have okk := OksL_iff.1 p5 tk (List.mem_of_getElem? f1)
    have etk := (sc_inv okk).1 _ f2
    subst etk
    have eix : ixM h1 (.ref a) (OT.sc (.int j)).v = .ok (.int x) h1 := by
      have : atI (ks.map OT.v) j = some (.int x) := by
        unfold atI
        rw [List.length_map] at ek ⊢
        rw [ek]
        simp [f1, OT.v]
      show ixM h1 (.ref a) (.int j) = _
      simp only [ixM, p4, this]
    rw [eix, okR_ok]
    refine okR_mono (sE' hc r1 (hk.trans d.2) d.1 q) fun v2 h2 ⟨t2, u2, B2, ev, ok2, l2, al2, d2, q⟩ => ?_
    subst ev
    have q' := int_of ok2 q
    clear q
    obtain ⟨m, e2, q⟩ := q'
    subst e2
    have r2 := r1.dr d2
    obtain ⟨a2, ks2, x1, x2, x3, x4, x5, x6, x7⟩ := r2.own_facts e1
    rw [g1] at x1
    cases x1
    have fin : ∀ z : Int, N (σv.set i (.v (.list ((ks.map OT.d).set k (.int z))) w)) B2 → NP hE S T N σ (h2.set a (.lst ((ks.map OT.v).set k (.int z)))) := by
      intro z q
      have em : (ks.map OT.v).set k (.int z) = (ks.set k (.sc (.int z))).map OT.v := by rw [List.map_set]; rfl
      have ed : (ks.map OT.d).set k (.int z) = (ks.set k (.sc (.int z))).map OT.d := by rw [List.map_set]; rfl
      rw [em]
      rw [ed] at q
      obtain ⟨s1, s2, s3⟩ := r2.sl i _ w e1
      rw [g1] at s1 s3
      have r3 := r2.push (vs := []) (t := .sc .non) (u := 2) (.rfl' d2.1) (by simp [OT.Ok, avOk]) .sc (by simp [OT.ls])
      have hsub : ∀ x ∈ lsL (ks.set k (OT.sc (.int z))), x ∈ lsL ks := by
        intro x hx
        obtain ⟨y, hy, hx⟩ := lsL_mem.1 hx
        rcases List.mem_or_eq_of_mem_set hy with z | z
        · exact lsL_mem.2 ⟨y, z, hx⟩
        · subst z; simp [OT.ls] at hx
      refine mut_np r3 d2.1 ((hk.trans d.2).trans d2.2) e1 hw g1 g7 (fun x hx => .inl (hsub x hx)) ?_ (by simp; omega) ?_ q
      · rw [OksL_iff]
        intro y hy
        rcases List.mem_or_eq_of_mem_set hy with z | z
        · exact OksL_iff.1 x5 y z
        · subst z; simp [OT.Ok, avOk]
      · by_cases h2 : 2 ≤ w
        · right
          refine ⟨h2, ?_, .inr hsub⟩
          have n1 := (s1.2 h2).1
          simp only [OT.ls, List.nodup_cons] at n1
          exact ls_set_nodup n1.2 (by simp [OT.ls]) (by simp [OT.ls])
        · left; omega
    cases op with
    | add =>
      show okS (match setIxA h2 (.ref a) (.int j) (.int (x + m)) with | some h6 => SRs.nx σ h6 | none => .no) _ _ _
      rw [setIx_ok x4 ek]
      exact fin _ q
    | sub =>
      show okS (match setIxA h2 (.ref a) (.int j) (.int (x - m)) with | some h6 => SRs.nx σ h6 | none => .no) _ _ _
      rw [setIx_ok x4 ek]
      exact fin _ q
    | _ => exact q.elim
  · exact q.elim
end
end AH

set_option Elab.async false
set_option linter.all false
set_option maxRecDepth 100000
set_option maxHeartbeats 4000000
/-! VW15: soundness of statements. -/
namespace AH
open PySem L2
theorem call_cases (V : VX) (bo : Bool) (f : Nat) (es : L) : (∃ e, f = 28 ∧ es = .cons e .nil) ∨ (∀ (σ : VSl) (B : Nat) (Q : Bool → VSl → Nat → Prop) (X : WX), wC V bo (.call f es) σ B Q X = wE V.toVC (.call f es) σ B (fun d _ B1 => if bo = true then (match d with | .bool t => Q t σ B1 | _ => False) else optQ (truthD d) fun t => Q t σ B1) X) := by
  by_cases hf : f = 28
  · subst hf
    match es with
    | .cons e .nil => exact .inl ⟨e, rfl, rfl⟩
    | .nil => exact .inr fun _ _ _ _ => rfl
    | .star _ _ => exact .inr fun _ _ _ _ => rfl
    | .cons _ (.cons _ _) => exact .inr fun _ _ _ _ => rfl
    | .cons _ (.star _ _) => exact .inr fun _ _ _ _ => rfl
  · right
    intro σ B Q X
    unfold wC
    split
    all_goals first | rfl | (exfalso; next h => cases h) | (exfalso; rename_i h; cases h; exact hf rfl) | skip
theorem sC (V : VX) (hc : SoundC V.toVC) (ha : SoundAp V) : ∀ (e : E) {bo : Bool} {hE : AHp} {S : Nat → Prop} {T : List (OT × Nat)} {σv : VSl} {σ : Sl} {h : AHp} {ts : Nat → OT} {B : Nat} {Q : Bool → VSl → Nat → Prop} {X : WX}, RelS hE.n S T σv σ h ts → Keep (isStr 2 1) hE h → StrOk h 2 1 B → wC V bo e σv B Q X → okR (evE V.C e σ h) (CP hE S T σ ts bo Q) (XP S hE X)
  | .not a, bo, hE, S, T, σv, σ, h, ts, B, Q, X, r, hk, st, q => sC_not (sC V hc ha a r hk st q)
  | .and a b, bo, hE, S, T, σv, σ, h, ts, B, Q, X, r, hk, st, q => sC_and (sC V hc ha a r hk st q) fun r1 hk1 st1 q1 => sC V hc ha b r1 hk1 st1 q1
  | .or a b, bo, hE, S, T, σv, σ, h, ts, B, Q, X, r, hk, st, q => sC_or (sC V hc ha a r hk st q) fun r1 hk1 st1 q1 => sC V hc ha b r1 hk1 st1 q1
  | .call f es, bo, hE, S, T, σv, σ, h, ts, B, Q, X, r, hk, st, q => by
    rcases call_cases V bo f es with ⟨e, e1, e2⟩ | e
    · subst e1
      subst e2
      exact ap_ok hc ha r hk st q
    · rw [e] at q
      exact cp_of hc r hk st q
  | .var _, bo, hE, S, T, σv, σ, h, ts, B, Q, X, r, hk, st, q => cp_of hc r hk st q
  | .int _, bo, hE, S, T, σv, σ, h, ts, B, Q, X, r, hk, st, q => cp_of hc r hk st q
  | .bl _, bo, hE, S, T, σv, σ, h, ts, B, Q, X, r, hk, st, q => cp_of hc r hk st q
  | .non, bo, hE, S, T, σv, σ, h, ts, B, Q, X, r, hk, st, q => cp_of hc r hk st q
  | .str _, bo, hE, S, T, σv, σ, h, ts, B, Q, X, r, hk, st, q => cp_of hc r hk st q
  | .glo _, bo, hE, S, T, σv, σ, h, ts, B, Q, X, r, hk, st, q => cp_of hc r hk st q
  | .bin _ _ _, bo, hE, S, T, σv, σ, h, ts, B, Q, X, r, hk, st, q => cp_of hc r hk st q
  | .neg _, bo, hE, S, T, σv, σ, h, ts, B, Q, X, r, hk, st, q => cp_of hc r hk st q
  | .cmp _ _ _, bo, hE, S, T, σv, σ, h, ts, B, Q, X, r, hk, st, q => cp_of hc r hk st q
  | .cmp2 _ _ _ _ _, bo, hE, S, T, σv, σ, h, ts, B, Q, X, r, hk, st, q => cp_of hc r hk st q
  | .ite _ _ _, bo, hE, S, T, σv, σ, h, ts, B, Q, X, r, hk, st, q => cp_of hc r hk st q
  | .lst _, bo, hE, S, T, σv, σ, h, ts, B, Q, X, r, hk, st, q => cp_of hc r hk st q
  | .tup _, bo, hE, S, T, σv, σ, h, ts, B, Q, X, r, hk, st, q => cp_of hc r hk st q
  | .dct _, bo, hE, S, T, σv, σ, h, ts, B, Q, X, r, hk, st, q => cp_of hc r hk st q
  | .lc _ _ _ _, bo, hE, S, T, σv, σ, h, ts, B, Q, X, r, hk, st, q => cp_of hc r hk st q
  | .lcf _ _ _ _ _, bo, hE, S, T, σv, σ, h, ts, B, Q, X, r, hk, st, q => cp_of hc r hk st q
  | .lc2 _ _ _ _ _ _ _, bo, hE, S, T, σv, σ, h, ts, B, Q, X, r, hk, st, q => cp_of hc r hk st q
  | .dc _ _ _ _ _, bo, hE, S, T, σv, σ, h, ts, B, Q, X, r, hk, st, q => cp_of hc r hk st q
  | .sub _ _, bo, hE, S, T, σv, σ, h, ts, B, Q, X, r, hk, st, q => cp_of hc r hk st q
  | .sl _ _ _, bo, hE, S, T, σv, σ, h, ts, B, Q, X, r, hk, st, q => cp_of hc r hk st q
  | .callk _ _ _, bo, hE, S, T, σv, σ, h, ts, B, Q, X, r, hk, st, q => cp_of hc r hk st q
  | .blt _ _, bo, hE, S, T, σv, σ, h, ts, B, Q, X, r, hk, st, q => cp_of hc r hk st q
  | .isa _ _ _, bo, hE, S, T, σv, σ, h, ts, B, Q, X, r, hk, st, q => cp_of hc r hk st q
  | .lstE _, bo, hE, S, T, σv, σ, h, ts, B, Q, X, r, hk, st, q => cp_of hc r hk st q
  | .lstR1 _, bo, hE, S, T, σv, σ, h, ts, B, Q, X, r, hk, st, q => cp_of hc r hk st q
  | .lstR2 _ _, bo, hE, S, T, σv, σ, h, ts, B, Q, X, r, hk, st, q => cp_of hc r hk st q
  | .lstIt _, bo, hE, S, T, σv, σ, h, ts, B, Q, X, r, hk, st, q => cp_of hc r hk st q
  | .tupE _, bo, hE, S, T, σv, σ, h, ts, B, Q, X, r, hk, st, q => cp_of hc r hk st q
  | .dctE _, bo, hE, S, T, σv, σ, h, ts, B, Q, X, r, hk, st, q => cp_of hc r hk st q
  | .bad, bo, hE, S, T, σv, σ, h, ts, B, Q, X, r, hk, st, q => cp_of hc r hk st q
  | .lock _ _, bo, hE, S, T, σv, σ, h, ts, B, Q, X, r, hk, st, q => cp_of hc r hk st q
  | .iso _, bo, hE, S, T, σv, σ, h, ts, B, Q, X, r, hk, st, q => cp_of hc r hk st q
  | .meth _ _ _, bo, hE, S, T, σv, σ, h, ts, B, Q, X, r, hk, st, q => cp_of hc r hk st q
  | .met _ _, bo, hE, S, T, σv, σ, h, ts, B, Q, X, r, hk, st, q => cp_of hc r hk st q
section
variable {hE : AHp} {S : Nat → Prop} {T : List (OT × Nat)} {σv : VSl} {σ : Sl} {h : AHp} {ts : Nat → OT}
theorem mp_rp {v : AV} {R : WQ} {h' : AHp} (hk : Keep (isStr 2 1) hE h) (q : MP hE h S σv ts (fun d u _ B1 => R d u B1) v h') : RP S hE R v h' := by
  obtain ⟨t, u, mv, B, e, ok, m, d, q⟩ := q
  exact ⟨t, u, B, e, ok, m.1, m.2.1, ⟨d.1, hk.trans d.2⟩, q⟩
theorem sx_asg {V : VX} (hc : SoundC V.toVC) {i B : Nat} {e : E} {N : VSl → Nat → Prop} {R : WQ} {X : WX} {R' : QV} (r : RelS hE.n S T σv σ h ts) (hk : Keep (isStr 2 1) hE h) (st : StrOk h 2 1 B) (q : wS V (.asg i e) σv B N R X) : okS (evS V.C (.asg i e) σ h) (NP hE S T N) R' (XP S hE X) := by
  simp only [wS] at q
  simp only [s_asg']
  refine okR_mono (sE' hc r hk st q) fun v h1 ⟨t, u, B1, ev, ok, l, al, d, q⟩ => ?_
  subst ev
  exact ⟨_, _, B1, (r.push (vs := vsE e) d ok l al).pop i, d.1, hk.trans d.2, q⟩
theorem bindGs_nms {h : AHp} : ∀ {gs : Gs} {is : List Nat} {vs : List AV} {σ : Sl}, nmsG gs = some is → vs.length = is.length → bindGs h gs vs σ = some ((is.zip vs).foldl (fun s p => s.set p.1 (some p.2)) σ)
  | .nil, is, vs, σ, e, hl => by
    simp only [nmsG, Option.some.injEq] at e
    subst e
    cases vs with
    | nil => rfl
    | cons _ _ => simp at hl
  | .cons (.nm i) r, is, vs, σ, e, hl => by
    simp only [nmsG, Option.map_eq_some_iff] at e
    obtain ⟨is', e1, e2⟩ := e
    subst e2
    cases vs with
    | nil => simp at hl
    | cons v vs =>
      simp only [bindGs, bindG]
      exact bindGs_nms e1 (by simpa using hl)
  | .cons (.tp _) r, is, vs, σ, e, hl => by simp [nmsG] at e
theorem RelS.split {n0 : Nat} {S : Nat → Prop} {T : List (OT × Nat)} {σv : VSl} {σ : Sl} {h : AHp} {ts : Nat → OT} {t : OT} (r : RelS n0 S ((t, 2) :: T) σv σ h ts) (n : t.isN = true) : RelS n0 S (t.kids.map (fun x => (x, 2)) ++ T) σv σ h ts := by
  obtain ⟨ok, lv, sh, ot⟩ := r.tp (t, 2) (by simp)
  obtain ⟨pw1, pw2⟩ := List.pairwise_cons.1 r.pw
  obtain ⟨l1, l2⟩ := lv.2 (Nat.le_refl _)
  have o2 : ∀ x : OT, own x 2 = x.ls := fun x => rfl
  have mem : ∀ p ∈ t.kids.map (fun x => (x, 2)) ++ T, (∃ x ∈ t.kids, p = (x, 2)) ∨ p ∈ T := by
    intro p hp
    rcases List.mem_append.1 hp with z | z
    · obtain ⟨x, hx, e⟩ := List.mem_map.1 z
      exact .inl ⟨x, hx, e.symm⟩
    · exact .inr z
  refine ⟨r.e, fun i d u e => ⟨(r.sl i d u e).1, (r.sl i d u e).2.1, fun a ha => ⟨((r.sl i d u e).2.2 a ha).1, fun p hp => ?_⟩⟩, fun p hp => ?_, ?_, r.n⟩
  · rcases mem p hp with ⟨x, hx, e⟩ | z
    · subst e
      exact fun hax => ((r.sl i d u e).2.2 a ha).2 (t, 2) (by simp) ((kid_sub hx).subset hax)
    · exact ((r.sl i d u e).2.2 a ha).2 p (by simp [z])
  · rcases mem p hp with ⟨x, hx, e⟩ | z
    · subst e
      have sb := kid_sub hx
      have nd := l1.sublist sb
      refine ⟨ok.kid hx, ⟨fun _ a xs e => ?_, fun _ => ⟨nd, fun a ha => l2 a (sb.subset ha)⟩⟩, fun a ha => sh a (sb.subset ha), fun a ha => ot a (sb.subset ha)⟩
      dsimp only at e
      subst e
      simp only [OT.ls, List.nodup_cons] at nd
      exact ⟨l2 a (sb.subset (by simp [OT.ls])), nd.1⟩
    · exact r.tp p (by simp [z])
  · rw [List.pairwise_append]
    refine ⟨?_, pw2, fun p hp q hq => ?_⟩
    · have nl : (lsL t.kids).Nodup := l1.sublist kids_ls
      have : ∀ {ks : List OT}, (lsL ks).Nodup → (ks.map fun x => (x, 2)).Pairwise Dj := by
        intro ks
        induction ks with
        | nil => intro _; exact .nil
        | cons x rr ih =>
          intro nd
          simp only [lsL, List.nodup_append] at nd
          refine List.Pairwise.cons (fun q hq => ?_) (ih nd.2.1)
          obtain ⟨y, hy, e⟩ := List.mem_map.1 hq
          subst e
          exact ⟨fun a ha hb => nd.2.2 a ha a ((ls_sub hy).subset hb) rfl, fun a ha hb => nd.2.2 a hb a ((ls_sub hy).subset ha) rfl⟩
      exact this nl
    · obtain ⟨x, hx, e⟩ := List.mem_map.1 hp
      subst e
      exact ⟨fun a ha hb => (pw1 q hq).1 a ((kid_sub hx).subset ha) hb, fun a ha hb => (pw1 q hq).2 a ha ((kid_sub hx).subset hb)⟩
theorem sx_asgT {V : VX} (hc : SoundC V.toVC) {gs : Gs} {B : Nat} {e : E} {N : VSl → Nat → Prop} {R : WQ} {X : WX} {R' : QV} (r : RelS hE.n S T σv σ h ts) (hk : Keep (isStr 2 1) hE h) (st : StrOk h 2 1 B) (q : wS V (.asgT gs e) σv B N R X) : okS (evS V.C (.asgT gs e) σ h) (NP hE S T N) R' (XP S hE X) := by
  simp only [wS] at q
  simp only [s_asgT']
  refine okR_mono (sE' hc r hk st q) fun v h1 ⟨t, u, B1, ev, ok, l, al, d, q⟩ => ?_
  subst ev
  dsimp only at q
  split at q
  · next is xs eo =>
    unfold ownT at eo
    split at eo
    · next hu =>
      subst hu
      split at eo
      · next is' xs' en ex =>
        split at eo
        · next hl =>
          simp only [Option.some.injEq, Prod.mk.injEq] at eo
          obtain ⟨eo1, eo2⟩ := eo
          subst eo1
          subst eo2
          obtain ⟨n, exs⟩ := sqD_inv ex
          subst exs
          have r1 : RelS hE.n S ((t, 2) :: T) σv σ h1 ts := (r.push (vs := vsE e) d ok l al)
          have r2 := r1.split n
          obtain ⟨ts', r3⟩ := r2.pops (is := is') (by simpa using hl)
          have hb : bindG h1 (.tp gs) t.v σ = some ((is'.zip (t.kids.map OT.v)).foldl (fun s p => s.set p.1 (some p.2)) σ) := by
            obtain ⟨a, ev, g | g⟩ := ok.vals n
            · rw [ev]; simp only [bindG, g]; exact bindGs_nms en (by simpa using hl)
            · rw [ev]; simp only [bindG, g]; exact bindGs_nms en (by simpa using hl)
          simp only [hb]
          rw [List.map_map] at r3
          refine ⟨_, ts', B1, ?_, d.1, hk.trans d.2, q⟩
          simpa [Function.comp_def] using r3
        · cases eo
      · cases eo
    · cases eo
  · next eo =>
    obtain ⟨σ1v, e1, q⟩ := optQ_ex q
    have r1 := (r.push (vs := vsE e) d ok l al)
    have r2 : RelS hE.n S T (esc σv (vsE e) u) σ h1 ts := r1.sub (List.sublist_cons_self _ _)
    obtain ⟨σ1, ts1, f1, re, b1⟩ := bindG_ok (T := fun a => a ∈ t.ls) (.tp gs) r2.e (σv0 := esc σv (vsE e) u) (ts0 := ts) (fun i d u e => .inl ⟨e, rfl⟩) ok (fun a ha => ha) e1
    simp only [f1]
    have fr : Free hE.n S T (esc σv (vsE e) u) ts (fun a => a ∈ t.ls) := by
      refine ⟨fun i d' u' e' a ha hx => ((r1.sl i d' u' e').2.2 a ha).2 (t, u) (by simp) hx, fun p hp a ha hx => ?_, fun a hx => (r1.tp (t, u) (by simp)).2.2.1 a hx⟩
      exact ((List.pairwise_cons.1 r1.pw).1 p hp).2 a ha hx
    exact ⟨σ1v, ts1, B1, r2.bd re b1 fr, d.1, hk.trans d.2, q⟩
theorem sx_asgP {V : VX} (hc : SoundC V.toVC) {is : List Nat} {B : Nat} {es : L} {N : VSl → Nat → Prop} {R : WQ} {X : WX} {R' : QV} (r : RelS hE.n S T σv σ h ts) (hk : Keep (isStr 2 1) hE h) (st : StrOk h 2 1 B) (q : wS V (.asgP is es) σv B N R X) : okS (evS V.C (.asgP is es) σ h) (NP hE S T N) R' (XP S hE X) := by
  simp only [wS] at q
  rw [s_asgP']
  refine okR_mono (sU hc es r hk st q) fun vs h1 ⟨us, σv', B1, ev, r1, d, hl, q⟩ => ?_
  subst ev
  have hl' : us.length = is.length := by simpa using hl
  rw [if_pos (by simpa using hl')]
  obtain ⟨ts', r2⟩ := r1.pops hl'
  exact ⟨_, ts', B1, r2, d.1, hk.trans d.2, q⟩
theorem sx_augN {V : VX} (hc : SoundC V.toVC) {i B : Nat} {e : E} {op : BOp} {N : VSl → Nat → Prop} {R : WQ} {X : WX} {R' : QV} (r : RelS hE.n S T σv σ h ts) (hk : Keep (isStr 2 1) hE h) (st : StrOk h 2 1 B) (q : wS V (.augN i op e) σv B N R X) : okS (evS V.C (.augN i op e) σ h) (NP hE S T N) R' (XP S hE X) := by
  simp only [wS] at q
  split at q
  · next x w e1 =>
    obtain ⟨t1, t2, t3⟩ := r.tree e1
    rw [(sc_inv t2).1 _ t3] at t1
    simp only [evS, t1, okS_sbind]
    refine okR_mono (sE' hc r hk st q) fun v h1 ⟨t, u, B1, ev, ok, l, al, d, q⟩ => ?_
    subst ev
    have q' := int_of ok q
    clear q
    obtain ⟨m, e2, q⟩ := q'
    subst e2
    have fin : ∀ z : Int, N (σv.set i (.v (.int z) 2)) B1 → NP hE S T N (σ.set i (some (.int z))) h1 := fun z q =>
      ⟨_, _, B1, ((r.dr d).push (vs := []) (t := .sc (.int z)) (u := 2) (.rfl' d.1) (by simp [OT.Ok, avOk]) .sc (by simp [OT.ls])).pop i, d.1, hk.trans d.2, q⟩
    cases op with
    | add => exact fin _ q
    | sub => exact fin _ q
    | _ => exact q.elim
  · exact q.elim
theorem sx_raise {V : VX} (hc : SoundC V.toVC) {c B : Nat} {es : L} {N : VSl → Nat → Prop} {R : WQ} {X : WX} {N' : Sl → AHp → Prop} {R' : QV} (r : RelS hE.n S T σv σ h ts) (hk : Keep (isStr 2 1) hE h) (st : StrOk h 2 1 B) (q : wS V (.raise c es) σv B N R X) : okS (evS V.C (.raise c es) σ h) N' R' (XP S hE X) := by
  simp only [wS] at q
  simp only [evS, okS_sbind]
  refine okR_mono2 (sL V.toVC hc es r.e st Sh.al q) (fun vs h1 ⟨us, m, B1, ev, ok, l, al, d, q⟩ => ?_) (xp_up r hk)
  subst ev
  obtain ⟨fs, e1, hl, q⟩ := optQ_ex q
  simp only [List.length_map] at hl
  simp only [e1, List.length_map, hl, if_true, okS_ex]
  refine ⟨(fs.zip us).reverse, B1, ?_, fun p hp => ?_, ⟨d.1, hk.trans d.2⟩, ?_⟩
  · rw [List.zip_map_right, List.map_reverse]; rfl
  · have hm : p.2 ∈ us := (List.of_mem_zip (List.mem_reverse.1 hp)).2
    refine ⟨OksL_iff.1 ok _ hm, fun a ha => ?_⟩
    rcases al a (lsL_mem.2 ⟨_, hm, ha⟩) with z | z
    · exact .inl (Nat.le_trans hk.1 z)
    · exact r.sh z
  · rw [List.zip_map_right] at q
    rw [List.map_reverse]
    exact q
theorem sx_ite {V : VX} (hc : SoundC V.toVC) (ha : SoundAp V) {c : E} {a b : B} {B : Nat} {N : VSl → Nat → Prop} {R : WQ} {X : WX} {R' : QV} (r : RelS hE.n S T σv σ h ts) (hk : Keep (isStr 2 1) hE h) (st : StrOk h 2 1 B) (q : wS V (.ite c a b) σv B N R X)
    (iha : ∀ {σv : VSl} {h : AHp} {B : Nat}, RelS hE.n S T σv σ h ts → Keep (isStr 2 1) hE h → StrOk h 2 1 B → wB V a σv B N R X → okS (evB V.C a σ h) (NP hE S T N) R' (XP S hE X))
    (ihb : ∀ {σv : VSl} {h : AHp} {B : Nat}, RelS hE.n S T σv σ h ts → Keep (isStr 2 1) hE h → StrOk h 2 1 B → wB V b σv B N R X → okS (evB V.C b σ h) (NP hE S T N) R' (XP S hE X)) : okS (evS V.C (.ite c a b) σ h) (NP hE S T N) R' (XP S hE X) := by
  simp only [wS] at q
  simp only [s_ite', r_truth]
  refine okR_mono (sC V hc ha c r hk st q) fun v h1 ⟨t, σ1, B1, et, eb, r1, st1, k1, q⟩ => ?_
  simp only [et]
  cases t with
  | true => exact iha r1 k1 st1 q
  | false => exact ihb r1 k1 st1 q
theorem sx_for {V : VX} (hc : SoundC V.toVC) {g : G} {it : I} {b : B} {B : Nat} {N : VSl → Nat → Prop} {R : WQ} {X : WX} {R' : QV} (r : RelS hE.n S T σv σ h ts) (hk : Keep (isStr 2 1) hE h) (st : StrOk h 2 1 B) (q : wS V (.forS g it b) σv B N R X)
    (ih : ∀ {T : List (OT × Nat)} {σv : VSl} {σ : Sl} {h : AHp} {ts : Nat → OT} {B : Nat} {N : VSl → Nat → Prop}, RelS hE.n S T σv σ h ts → Keep (isStr 2 1) hE h → StrOk h 2 1 B → wB V b σv B N R X → okS (evB V.C b σ h) (NP hE S T N) R' (XP S hE X)) : okS (evS V.C (.forS g it b) σ h) (NP hE S T N) R' (XP S hE X) := by
  simp only [wS] at q
  rw [s_for']
  refine okR_mono2 (sI V.toVC hc it r.e st Sh.al q) (fun t h1 ⟨its, E0, B1, i1, ok0, d, q⟩ => ?_) (xp_up r hk)
  have r1 : RelS hE.n S (E0.map (fun t => (t, 0)) ++ T) (clr σv (vsI it)) σ h1 ts := by
    refine (((r.dr d).le (Le.clr (vs := vsI it))).pushE (E := E0) (X := fun a => h.n ≤ a ∨ Sh (vsI it) σv ts a) ok0 ?_)
    have fr := r.free_sh (vs := vsI it) (X := fun a => h.n ≤ a ∨ Sh (vsI it) σv ts a) fun a x => x
    exact fr
  refine okS_for (fun i σ' h' => NP hE S (E0.map (fun t => (t, 0)) ++ T) (fun σv' B' => wFor (fun vs σ1 B2 K => optQ (bindV g vs σ1) fun σ2 => wB V b σ2 B2 K R X) ((its.drop i).map fun x => x.map OT.d) σv' B' N) σ' h') ?_ ?_ _ _ _ _ (by simp) ⟨_, _, B1, r1, d.1, hk.trans d.2, by simpa using q⟩
  · intro i σ' h' hi ⟨σv', ts', B', r2, st2, k2, q2⟩
    have hi' : i < its.length := by rw [i1.1] at hi; exact hi
    have okE : ∀ t ∈ E0, t.Ok h' 3 := fun t ht => (r2.tp (t, 0) (by simp [ht])).1
    have okx := (i1.2 h' okE).2 i hi'
    rw [List.drop_eq_getElem_cons hi'] at q2
    simp only [List.map_cons, wFor] at q2
    obtain ⟨σ1v, e1, q2⟩ := optQ_ex q2
    have fr := r2.free (E := E0) fun t ht => by simp [ht]
    obtain ⟨σ1, ts1, f1, re, b1⟩ := bindV_ok (T := fun a => a ∈ lsL E0) r2.e (σv0 := σv') (ts0 := ts') (fun i d u e => .inl ⟨e, rfl⟩) (fun x hx => okx.2 x hx) e1
    refine ⟨_, okx.1, ?_⟩
    simp only [f1]
    exact ih (r2.bd re b1 fr) k2 st2 q2
  · intro σ' h' ⟨σv', ts', B', r2, st2, k2, q2⟩
    rw [i1.1, List.drop_eq_nil_of_le (Nat.le_refl _)] at q2
    simp only [List.map_nil, wFor] at q2
    exact ⟨(i1.2 h' fun t ht => (r2.tp (t, 0) (by simp [ht])).1).1, σv', ts', B', r2.sub (List.sublist_append_right _ _), st2, k2, q2⟩
theorem sx_whl {V : VX} (hc : SoundC V.toVC) (ha : SoundAp V) {c : E} {b : B} {R : WQ} {X : WX} {R' : QV}
    (ih : ∀ {σv : VSl} {σ : Sl} {h : AHp} {ts : Nat → OT} {B : Nat} {N : VSl → Nat → Prop}, RelS hE.n S T σv σ h ts → Keep (isStr 2 1) hE h → StrOk h 2 1 B → wB V b σv B N R X → okS (evB V.C b σ h) (NP hE S T N) R' (XP S hE X)) : ∀ (n : Nat) {B : Nat} {N : VSl → Nat → Prop} {σv : VSl} {σ : Sl} {h : AHp} {ts : Nat → OT}, RelS hE.n S T σv σ h ts → Keep (isStr 2 1) hE h → StrOk h 2 1 B → wWhl (fun σ1 B1 K => wC V false c σ1 B1 K X) (fun σ1 B1 K => wB V b σ1 B1 K R X) n σv B N → okS (whlGo (fun σ1 h1 => truthR (evE V.C c σ1 h1)) (fun σ1 h1 => evB V.C b σ1 h1) n σ h) (NP hE S T N) R' (XP S hE X)
  | 0, B, N, σv, σ, h, ts, r, hk, st, q => q.elim
  | n + 1, B, N, σv, σ, h, ts, r, hk, st, q => by
    simp only [wWhl] at q
    unfold whlGo
    simp only [okS_sbind, r_truth]
    refine okR_mono (sC V hc ha c r hk st q) fun v h1 ⟨t, σ1, B1, et, eb, r1, st1, k1, q⟩ => ?_
    simp only [et]
    cases t with
    | false => exact ⟨σ1, ts, B1, r1, st1, k1, q⟩
    | true =>
      simp only [if_true, okS_seq]
      refine okS_mono (ih r1 k1 st1 q) (fun σ2 h2 ⟨σv2, ts2, B2, r2, st2, k2, q⟩ => ?_) fun _ _ q => q
      exact sx_whl hc ha ih n r2 k2 st2 q
end
end AH

set_option Elab.async false
set_option linter.all false
set_option maxRecDepth 100000
set_option maxHeartbeats 4000000
/-! VW16: soundness of statements, whole. -/
namespace AH
open PySem L2
mutual
theorem sS (V : VX) (hc : SoundC V.toVC) (ha : SoundAp V) {hE : AHp} {S0 : Nat → Prop} : ∀ (s : S) {T : List (OT × Nat)} {σv : VSl} {σ : Sl} {h : AHp} {ts : Nat → OT} {B : Nat} {N : VSl → Nat → Prop} {R : WQ} {X : WX}, RelS hE.n S0 T σv σ h ts → Keep (isStr 2 1) hE h → StrOk h 2 1 B → wS V s σv B N R X → okS (evS V.C s σ h) (NP hE S0 T N) (RP S0 hE R) (XP S0 hE X)
  | .asg i e, T, σv, σ, h, ts, B, N, R, X, r, hk, st, q => sx_asg hc r hk st q
  | .asgT gs e, T, σv, σ, h, ts, B, N, R, X, r, hk, st, q => sx_asgT hc r hk st q
  | .asgP is es, T, σv, σ, h, ts, B, N, R, X, r, hk, st, q => sx_asgP hc r hk st q
  | .setix o ix e, T, σv, σ, h, ts, B, N, R, X, r, hk, st, q => by
    cases o with
    | var i => exact s_six hc r hk st q
    | _ => exact q.elim
  | .augIx o ix op e, T, σv, σ, h, ts, B, N, R, X, r, hk, st, q => by
    cases o with
    | var i => exact s_aix hc r hk st q
    | _ => exact q.elim
  | .augN i op e, T, σv, σ, h, ts, B, N, R, X, r, hk, st, q => sx_augN hc r hk st q
  | .ex e, T, σv, σ, h, ts, B, N, R, X, r, hk, st, q => by
    cases e with
    | call f es =>
      simp only [wS] at q
      simp only [s_ex']
      refine okR_mono (sE' hc r hk st q) fun v h1 ⟨t, u, B1, ev, ok, l, al, d, q⟩ => ?_
      exact ⟨_, ts, B1, r.dr d, d.1, hk.trans d.2, q⟩
    | meth m o es =>
      cases m with
      | append =>
        cases o with
        | var i =>
          cases es with
          | cons e rr =>
            cases rr with
            | nil => exact s_app hc r hk st q
            | _ => exact q.elim
          | _ => exact q.elim
        | _ => exact q.elim
      | extend =>
        cases o with
        | var i =>
          cases es with
          | cons e rr =>
            cases rr with
            | nil => exact s_ext hc r hk st q
            | _ => exact q.elim
          | _ => exact q.elim
        | _ => exact q.elim
      | _ => exact q.elim
    | _ => exact q.elim
  | .ite c a b, T, σv, σ, h, ts, B, N, R, X, r, hk, st, q => sx_ite hc ha r hk st q (fun r1 k1 st1 q1 => sB V hc ha a r1 k1 st1 q1) (fun r1 k1 st1 q1 => sB V hc ha b r1 k1 st1 q1)
  | .forS g it b, T, σv, σ, h, ts, B, N, R, X, r, hk, st, q => sx_for hc r hk st q fun r1 k1 st1 q1 => sB V hc ha b r1 k1 st1 q1
  | .whl c b, T, σv, σ, h, ts, B, N, R, X, r, hk, st, q => by
    simp only [wS] at q
    rw [s_whl']
    exact sx_whl hc ha (fun r1 k1 st1 q1 => sB V hc ha b r1 k1 st1 q1) V.C.F r hk st q
  | .ret e, T, σv, σ, h, ts, B, N, R, X, r, hk, st, q => by
    simp only [wS] at q
    simp only [s_ret']
    split at q
    · refine okR_mono (sC V hc ha e r hk st q) fun v h1 ⟨t, σ1, B1, et, eb, r1, st1, k1, q⟩ => ?_
      rw [eb rfl]
      exact RP.sc rfl ⟨st1, k1⟩ q
    · exact okR_mono (sV V.toVC hc e r hk st q) fun v h1 q => mp_rp hk q
  | .retN, T, σv, σ, h, ts, B, N, R, X, r, hk, st, q => RP.sc (v := .non) rfl ⟨st, hk⟩ q
  | .raise c es, T, σv, σ, h, ts, B, N, R, X, r, hk, st, q => sx_raise hc r hk st q
  | .pass, T, σv, σ, h, ts, B, N, R, X, r, hk, st, q => ⟨σv, ts, B, r, st, hk, q⟩
  | .bad, T, σv, σ, h, ts, B, N, R, X, r, hk, st, q => q.elim
  | .lock _ _, T, σv, σ, h, ts, B, N, R, X, r, hk, st, q => q.elim
theorem sB (V : VX) (hc : SoundC V.toVC) (ha : SoundAp V) {hE : AHp} {S0 : Nat → Prop} : ∀ (b : B) {T : List (OT × Nat)} {σv : VSl} {σ : Sl} {h : AHp} {ts : Nat → OT} {B : Nat} {N : VSl → Nat → Prop} {R : WQ} {X : WX}, RelS hE.n S0 T σv σ h ts → Keep (isStr 2 1) hE h → StrOk h 2 1 B → wB V b σv B N R X → okS (evB V.C b σ h) (NP hE S0 T N) (RP S0 hE R) (XP S0 hE X)
  | .nil, T, σv, σ, h, ts, B, N, R, X, r, hk, st, q => ⟨σv, ts, B, r, st, hk, q⟩
  | .cons s rr, T, σv, σ, h, ts, B, N, R, X, r, hk, st, q => by
    rw [b_cs]
    simp only [wB] at q
    exact okS_mono (sS V hc ha s r hk st q) (fun σ1 h1 ⟨σv1, ts1, B1, r1, st1, k1, q⟩ => sB V hc ha rr r1 k1 st1 q) fun _ _ q => q
  | .iso b, T, σv, σ, h, ts, B, N, R, X, r, hk, st, q => by
    simp only [wB] at q
    obtain ⟨v, h1, e1, c, q⟩ := q
    simp only [evB, scal_eq r.e, e1, avOk_flat c, if_true]
    exact RP.sc c ⟨st, hk⟩ q
end
end AH

set_option Elab.async false
set_option linter.all false
set_option maxRecDepth 100000
set_option maxHeartbeats 1000000
/-! VW17: calls, told of data alone. -/
namespace AH
open PySem L2
def startV (n : Nat) (as : List VA) : VSl := as.map (fun a => match a with | .d x => VS.v x 0 | .strm => .strm) ++ List.replicate (n - as.length) .no
def isPrim (f : Nat) : Bool := f == 109 || f == 431 || f == 344 || f == 101 || f == 491 || f == 296
def sqOf : PyData → Option (List PyData)
  | .list xs => some xs
  | .tuple xs => some xs
  | _ => none
/-- the shared helpers -/
def wprim (d f : Nat) (as : List VA) (B : Nat) (Q : WQ) : Prop := match f, as with
  | 109, [.strm, .d (.int m)] => 0 < m ∧ m < 1073741824 ∧ B < 1099511627776 ∧ ∀ v, 0 ≤ v → v < m → Q (.int v) 2 (B + 1)
  | 431, [.strm, .d x] => optQ (sqOf x) fun xs => 1 ≤ d ∧ xs ≠ [] ∧ xs.length < 1073741824 ∧ B < 1099511627776 ∧ ∀ y ∈ xs, Q y (lv0 y) (B + 1)
  | 344, [.strm, .d x] => optQ (sqOf x) fun xs => 1 ≤ d ∧ B + xs.length < 1099511627776 ∧ ∀ ys, ys.Perm xs → Q (.list ys) (lvK ys) (B + xs.length)
  | 101, [.d x] => ddp x ≤ d ∧ Q x 2 B
  | 491, [.d x, .d y] => x = y ∧ ddp x ≤ d ∧ Q (.bool true) 2 B
  | 296, [.strm, .d x] => ddp x < d ∧ B + dsz x < 1099511627776 ∧ ∀ y, nrm y = nrm x → Q y 2 (B + dsz x)
  | _, _ => False
def apD (d : Nat) (x : PyData) : Prop := dsz x < 16000000 ∧ nol x = true ∧ ddp x + 2 < d
def wrun (P : Prog) (F : Nat) : Nat → Nat → List VA → Nat → WQ → WX → Prop
  | 0, _, _, _, _, _ => False
  | d + 1, f, as, B, Q, X => if isPrim f = true then (P.body f).isSome = true ∧ wprim d f as B Q else match P.body f with
    | some (n, k, b) => as.length = k ∧ wB ⟨⟨⟨P, run P F d, F⟩, wrun P F d⟩, fun x => apD d x ∧ (P.body 28).isSome = true⟩ b (startV n as) B (fun _ B1 => Q .none 2 B1) Q X
    | none => False
/-- the shared helpers are those -/
structure HasP (P : Prog) : Prop where
  h109 : Has P 109 5 2 b109
  h431 : (P.body 431).isSome = true → Has P 431 2 2 b431
  h344 : (P.body 344).isSome = true → Has P 344 4 2 b344
  h101 : (P.body 101).isSome = true → Has P 101 4 1 b101
  h491 : (P.body 491).isSome = true → Has P 491 4 2 b491
  h296 : (P.body 296).isSome = true → Has P 296 5 2 b296 ∧ Has P 344 4 2 b344
  h28 : (P.body 28).isSome = true → Has P 28 1 1 b28 ∧ Has P 527 3 1 b527 ∧ Has P 155 4 1 b155
theorem perm_map {α β : Type} {f : α → β} : ∀ {ys xs : List β}, ys.Perm xs → ∀ {ts : List α}, xs = ts.map f → ∃ us : List α, us.Perm ts ∧ ys = us.map f := by
  intro ys xs h
  induction h with
  | nil => intro ts e; exact ⟨ts, .refl _, e⟩
  | cons x _ ih =>
    intro ts e
    cases ts with
    | nil => simp at e
    | cons t ts =>
      simp only [List.map_cons, List.cons.injEq] at e
      obtain ⟨us, h1, h2⟩ := ih e.2
      exact ⟨t :: us, h1.cons t, by simp [e.1, h2]⟩
  | swap x y l =>
    intro ts e
    match ts, e with
    | t :: u :: ts, e =>
      simp only [List.map_cons, List.cons.injEq] at e
      exact ⟨u :: t :: ts, .swap _ _ _, by simp [e.1, e.2.1, e.2.2]⟩
    | [], e => simp at e
    | [_], e => simp at e
  | trans _ _ ih1 ih2 =>
    intro ts e
    obtain ⟨us, h1, h2⟩ := ih2 e
    obtain ⟨vs, h3, h4⟩ := ih1 h2
    exact ⟨vs, h3.trans h1, h4⟩
theorem sqOf_sqD {x : PyData} : sqOf x = sqD x := by cases x <;> rfl
theorem args1 {cs : List (Option OT)} {x : PyData} (e : cs.map argD = [.d x]) : ∃ t, cs = [some t] ∧ t.d = x := by
  match cs, e with
  | [some t], e => simp only [List.map_cons, List.map_nil, argD, List.cons.injEq, VA.d.injEq, and_true] at e; exact ⟨t, rfl, e⟩
  | [none], e => simp [argD] at e
  | [], e => simp at e
  | _ :: _ :: _, e => simp at e
theorem args2 {cs : List (Option OT)} {x y : PyData} (e : cs.map argD = [.d x, .d y]) : ∃ t u, cs = [some t, some u] ∧ t.d = x ∧ u.d = y := by
  match cs, e with
  | [some t, some u], e => simp only [List.map_cons, List.map_nil, argD, List.cons.injEq, VA.d.injEq, and_true] at e; exact ⟨t, u, rfl, e⟩
  | [none, _], e => simp [argD] at e
  | [some _, none], e => simp [argD] at e
  | [], e => simp at e
  | [_], e => simp at e
  | _ :: _ :: _ :: _, e => simp at e
theorem argsS {cs : List (Option OT)} {x : PyData} (e : cs.map argD = [.strm, .d x]) : ∃ t, cs = [none, some t] ∧ t.d = x := by
  match cs, e with
  | [none, some t], e => simp only [List.map_cons, List.map_nil, argD, List.cons.injEq, VA.d.injEq, and_true, true_and] at e; exact ⟨t, rfl, e⟩
  | [some _, _], e => simp [argD] at e
  | [none, none], e => simp [argD] at e
  | [], e => simp at e
  | [_], e => simp at e
  | _ :: _ :: _ :: _, e => simp at e
section
variable {P : Prog} {F d : Nat}
theorem prim_ok (hp : HasP P) (hF : 1000 ≤ F) {f : Nat} {cs : List (Option OT)} {B : Nat} {Q : WQ} {X : WX} {h : AHp} {S : Nat → Prop} (hcs : ∀ t, some t ∈ cs → t.Ok h 3 ∧ ∀ a ∈ t.ls, S a) (st : StrOk h 2 1 B) (hs : (P.body f).isSome = true) (q : wprim d f (cs.map argD) B Q) : okR (run P F (d + 1) f (cs.map argV) h) (RP S h Q) (XP S h X) := by
  have n3 := st.n3
  generalize has : cs.map argD = as at q
  unfold wprim at q
  split at q
  · -- draw
    obtain ⟨t, rfl, e⟩ := argsS has
    have ok := hcs t (by simp)
    rw [(sc_inv ok.1).1 _ e]
    obtain ⟨q1, q2, q3, q4⟩ := q
    exact draw_ok hp.h109 hF st q3 q1 q2 fun v h' v0 v1 st' k => RP.sc rfl ⟨st', k⟩ (q4 v v0 v1)
  · -- pick
    obtain ⟨t, rfl, e⟩ := argsS has
    have ok := hcs t (by simp)
    obtain ⟨xs, e1, q0, q1, q2, q3, q4⟩ := optQ_ex q
    rw [sqOf_sqD, ← e] at e1
    obtain ⟨n, e2⟩ := sqD_inv e1
    subst e2
    obtain ⟨d', rfl⟩ : ∃ d', d = d' + 1 := ⟨d - 1, by omega⟩
    obtain ⟨a, ev, g⟩ := ok.1.vals n
    have ha : 3 ≤ a ∧ a < h.n := by
      have := ok.1
      cases t with
      | sc v => simp [OT.isN] at n
      | edct a => simp [OT.isN] at n
      | lst b xs => simp only [OT.Ok] at this; simp only [OT.v, AV.ref.injEq] at ev; subst ev; exact ⟨this.1, this.2.1⟩
      | tup b xs => simp only [OT.Ok] at this; simp only [OT.v, AV.ref.injEq] at ev; subst ev; exact ⟨this.1, this.2.1⟩
    show okR (run P F (d' + 1 + 1) 431 [.ref 2, t.v] h) _ _
    rw [ev]
    refine pick_ok (xs := t.kids.map OT.v) (hp.h431 hs) hp.h109 hF st q3 ⟨a, rfl, g⟩ ha.2 (by simp [isStr]; omega) (by simpa using q1) (by simpa using q2) fun v h' hv ⟨st', k⟩ => ?_
    obtain ⟨x, hx, ex⟩ := List.mem_map.1 hv
    subst ex
    have okx := (ok.1.kid hx).keep k str_lt
    exact ⟨x, _, B + 1, rfl, okx, .lv0 okx, fun b hb => .inr (ok.2 b ((kid_sub hx).subset hb)), ⟨st', k⟩, q4 _ (List.mem_map_of_mem hx)⟩
  · -- mixed
    obtain ⟨t, rfl, e⟩ := argsS has
    have ok := hcs t (by simp)
    obtain ⟨xs, e1, q0, q1, q2⟩ := optQ_ex q
    rw [sqOf_sqD, ← e] at e1
    obtain ⟨n, e2⟩ := sqD_inv e1
    subst e2
    obtain ⟨d', rfl⟩ : ∃ d', d = d' + 1 := ⟨d - 1, by omega⟩
    obtain ⟨a, ev, g⟩ := ok.1.vals n
    have hl := ok.1.klen
    show okR (run P F (d' + 1 + 1) 344 [.ref 2, t.v] h) _ _
    rw [ev]
    simp only [List.length_map] at q1 q2
    refine mixed_ok (xs := t.kids.map OT.v) (hp.h344 hs) hp.h109 hF st (by simpa using q1) ⟨a, rfl, g⟩ (by simpa using hl) fun ys h' r hperm r1 r2 g' ⟨st', k⟩ => ?_
    obtain ⟨us, p1, p2⟩ := perm_map hperm rfl
    subst p2
    have okk : OksL h' 3 us := OksL_iff.2 fun x hx => (ok.1.kid (p1.mem_iff.1 hx)).keep k str_lt
    have hsm : ∀ b ∈ lsL us, b ∈ t.ls := fun b hb => by
      obtain ⟨x, h1, h2⟩ := lsL_mem.1 hb
      exact (kid_sub (p1.mem_iff.1 h1)).subset h2
    have okr : (OT.lst r us).Ok h' 3 := by
      simp only [OT.Ok]
      exact ⟨by omega, r2, g', by rw [p1.length_eq]; exact hl, okk⟩
    refine ⟨.lst r us, lvK (us.map OT.d), B + t.kids.length, rfl, okr, ⟨fun _ b xs e => ?_, fun h2 => ?_⟩, fun b hb => ?_, ⟨by simpa using st', k⟩, ?_⟩
    · cases e
      exact ⟨r1, fun z => by have := ls_lt ok.1 _ (hsm _ z); omega⟩
    · simp only [OT.ls, lvK_nil okk h2]
      exact ⟨by simp, fun b hb => by simp at hb; omega⟩
    · simp only [OT.ls, List.mem_cons] at hb
      exact hb.elim (fun e => .inl (by omega)) fun hb => .inr (ok.2 b (hsm b hb))
    · have := q2 (us.map OT.d) (p1.map OT.d)
      simpa [OT.d, dsL_map] using this
  · -- copied
    obtain ⟨t, rfl, e⟩ := args1 has
    have ok := hcs t (by simp)
    subst e
    refine okR_to (copied_ok (hp.h101 hs) (d + 1) t h 3 ok.1 (by have := q.1; simp only [OT.dp]; omega)) fun v h' ⟨u, ev, m1, m2, m3, m4⟩ => ?_
    have m2' : u.d = t.d := m2
    exact ⟨u, 2, B, ev, m1.mono n3, ⟨fun _ a xs e => by subst e; simp only [OT.ls, List.nodup_cons] at m4; exact ⟨(m1.ls_ge a (by simp [OT.ls])).1, m4.1⟩, fun _ => ⟨m4, fun a ha => (m1.ls_ge a ha).1⟩⟩, fun a ha => .inl (m1.ls_ge a ha).1, (DrV.rfl' st).noA m3, by rw [m2']; exact q.2⟩
  · -- same
    obtain ⟨t, u, rfl, e1, e2⟩ := args2 has
    have ok := hcs t (by simp)
    have ok2 := hcs u (by simp)
    obtain ⟨q1, q2, q3⟩ := q
    subst e1
    subst e2
    refine okR_to (same_ok (hp.h491 hs) (d + 1) t u h 3 3 ok.1 ok2.1 q1 (by simp only [OT.dp]; omega)) fun v h' ⟨ev, k⟩ => ?_
    subst ev
    exact RP.sc rfl ((DrV.rfl' st).noA k) q3
  · -- loose
    obtain ⟨t, rfl, e⟩ := argsS has
    have ok := hcs t (by simp)
    obtain ⟨q1, q2, q3⟩ := q
    subst e
    obtain ⟨p1, p2⟩ := hp.h296 hs
    refine okR_to (loose_ok p1 p2 hp.h109 hF (d + 1) t h 3 B ok.1 (by decide) (by decide) st q2 (by simp only [OT.dp]; omega)) fun v h' ⟨⟨u, ev, m1, m2, m3, m4⟩, st'⟩ => ?_
    exact ⟨u, 2, _, ev, m1.mono n3, ⟨fun _ a xs e => by subst e; simp only [OT.ls, List.nodup_cons] at m4; exact ⟨(m1.ls_ge a (by simp [OT.ls])).1, m4.1⟩, fun _ => ⟨m4, fun a ha => (m1.ls_ge a ha).1⟩⟩, fun a ha => .inl (m1.ls_ge a ha).1, ⟨st', m3⟩, q3 u.d m2⟩
  · exact q.elim
theorem start_relV {cs : List (Option OT)} {h : AHp} {S : Nat → Prop} (hcs : ∀ t, some t ∈ cs → t.Ok h 3 ∧ ∀ a ∈ t.ls, S a) (n : Nat) : RelS h.n S [] (startV n (cs.map argD)) (start n (cs.map argV)) h (fun i => match cs[i]? with | some (some t) => t | _ => .sc .non) := by
  have get : ∀ i : Nat, (startV n (cs.map argD))[i]? = (match (cs[i]? : Option (Option OT)) with | some (some t) => some (VS.v (OT.d t) 0) | some none => some VS.strm | none => (List.replicate (n - cs.length) VS.no)[i - cs.length]?) := by
    intro i
    unfold startV
    simp only [List.map_map, List.length_map]
    by_cases hi : i < cs.length
    · rw [List.getElem?_append_left (by simpa using hi), List.getElem?_map, List.getElem?_eq_getElem hi]
      cases hc : cs[i] with
      | none => simp [argD]
      | some t => simp [argD]
    · rw [List.getElem?_append_right (by simp; omega), List.getElem?_eq_none (l := cs) (by omega)]
      simp
  have get2 : ∀ i : Nat, (start n (cs.map argV))[i]? = (match cs[i]? with | some c => some (some (argV c)) | none => (List.replicate (n - cs.length) (none : Option AV))[i - cs.length]?) := by
    intro i
    unfold start
    simp only [List.map_map, List.length_map]
    by_cases hi : i < cs.length
    · rw [List.getElem?_append_left (by simpa using hi), List.getElem?_map, List.getElem?_eq_getElem hi]
      simp
    · rw [List.getElem?_append_right (by simp; omega), List.getElem?_eq_none (l := cs) (by omega)]
      simp
  refine ⟨⟨by simp [startV, start], fun i => ?_⟩, fun i d u e => ?_, by simp, .nil, Nat.le_refl _⟩
  · rw [get, get2]
    cases hc : cs[i]? with
    | none =>
      simp only [R1]
      split
      · next e => rw [List.getElem?_replicate] at e; split at e <;> cases e
      · next e => rw [List.getElem?_replicate] at e; split at e <;> cases e
      · intro v e; rw [List.getElem?_replicate] at e; split at e <;> cases e
      · trivial
    | some c =>
      cases c with
      | none => simp only [R1]; rfl
      | some t =>
        have et : (match cs[i]? with | some (some t) => t | _ => OT.sc .non) = t := by rw [hc]
        show R1 h (some (VS.v t.d 0)) (some (some t.v)) (match cs[i]? with | some (some t) => t | _ => OT.sc .non)
        rw [et]
        exact ⟨rfl, (hcs t (List.mem_of_getElem? hc)).1, rfl⟩
  · rw [get] at e
    cases hc : cs[i]? with
    | none =>
      rw [hc] at e
      simp only at e
      rw [List.getElem?_replicate] at e
      split at e <;> cases e
    | some c =>
      cases c with
      | none => rw [hc] at e; cases e
      | some t =>
        rw [hc] at e
        cases e
        exact ⟨.zero, fun a ha => .inr ((hcs t (List.mem_of_getElem? hc)).2 a ha), fun a ha => by simp [own0] at ha⟩
theorem ap_sound (hp : HasP P) {c : Nat → List VA → Nat → WQ → WX → Prop} : SoundAp ⟨⟨⟨P, run P F d, F⟩, c⟩, fun x => apD d x ∧ (P.body 28).isSome = true⟩ := by
  intro t h ok nd ⟨⟨a1, a2, a3⟩, a4⟩
  obtain ⟨p1, p2, p3⟩ := hp.h28 a4
  obtain ⟨d', rfl⟩ : ∃ d', d = d' + 1 := ⟨d - 1, by omega⟩
  exact apart_ok p1 p2 p3 ok nd a1 a2 (by simp only [OT.dp]; omega) fun h' k => ⟨rfl, k⟩
theorem wrun_sound (hp : HasP P) (hF : 1000 ≤ F) : ∀ d : Nat, SoundC ⟨⟨P, run P F d, F⟩, wrun P F d⟩
  | 0 => fun f cs B Q X h S hcs st q => q.elim
  | d + 1 => fun f cs B Q X h S hcs st q => by
    simp only [wrun] at q
    split at q
    · exact prim_ok hp hF hcs st q.1 q.2
    · split at q
      · next n k b eb =>
        obtain ⟨hl, q⟩ := q
        refine okR_run (b := b) (n := n) (k := k) eb (by simpa using hl) ?_
        have ih := wrun_sound hp hF d
        refine okS_mono (sB ⟨⟨⟨P, run P F d, F⟩, wrun P F d⟩, fun x => apD d x ∧ (P.body 28).isSome = true⟩ ih (ap_sound hp) (hE := h) (S0 := S) b (start_relV hcs n) .refl st q) (fun σ h' ⟨σv, ts, B1, r1, st1, k1, q1⟩ => ?_) fun _ _ q => q
        exact RP.sc (v := .non) rfl ⟨st1, k1⟩ q1
      · exact q.elim
/-- a law, from what it asks of data -/
theorem law_val (hp : HasP P) (hF : 1000 ≤ F) (h529 : Has P 529 1 1 b529) {fl n : Nat} {tl : B} (hl : Has P fl n 1 (.cons (.asg 1 (.call 529 (.cons (.var 0) .nil))) tl)) (hn : 2 ≤ n) {ns : List Int} (hns : ns.length ≤ 900)
    (q : wB ⟨⟨⟨P, run P F (d + 1), F⟩, wrun P F (d + 1)⟩, fun x => apD (d + 1) x ∧ (P.body 28).isSome = true⟩ tl (.no :: .strm :: List.replicate (n - 2) .no) 0 (fun _ _ => False) (fun x _ _ => x = .bool true) noWX) : okR (run P F (d + 2) fl [.ref 0] (scrH ns)) (fun v _ => v = .bl true) noX := by
  refine okR_run hl rfl ?_
  rw [b_cs]
  obtain ⟨m, rfl⟩ : ∃ m, n = m + 2 := ⟨n - 2, by omega⟩
  have e1 : start (m + 2) [AV.ref 0] = some (.ref 0) :: none :: List.replicate m none := by
    simp [start, List.replicate_succ]
  rw [e1]
  simp only [s_asg', e_call, l_cs, l_nl, e_var, List.getElem?_cons_zero, okR_ok]
  refine start_ok h529 hns fun h1 n1 st1 => ?_
  have r : RelS h1.n (fun _ => False) [] (.no :: .strm :: List.replicate m .no) (some (.ref 0) :: some (.ref 2) :: List.replicate m none) h1 (fun _ => .sc .non) := by
    refine ⟨⟨by simp, fun i => ?_⟩, fun i d u e => ?_, by simp, .nil, Nat.le_refl _⟩
    · match i with
      | 0 => simp only [R1, List.getElem?_cons_zero]; intro v e; cases e; rfl
      | 1 => simp only [R1, List.getElem?_cons_succ, List.getElem?_cons_zero]
      | i + 2 =>
        simp only [List.getElem?_cons_succ, List.getElem?_replicate]
        split
        · intro v e; cases e
        · trivial
    · match i, e with
      | 0, e => cases e
      | 1, e => cases e
      | i + 2, e =>
        simp only [List.getElem?_cons_succ, List.getElem?_replicate] at e
        split at e <;> cases e
  have ih := wrun_sound (P := P) (F := F) hp hF (d + 1)
  have := sB ⟨⟨⟨P, run P F (d + 1), F⟩, wrun P F (d + 1)⟩, fun x => apD (d + 1) x ∧ (P.body 28).isSome = true⟩ ih (ap_sound hp) (hE := h1) (S0 := fun _ => False) tl r .refl st1 q
  show okS (evB ⟨P, run P F (d + 1), F⟩ tl (some (.ref 0) :: some (.ref 2) :: List.replicate m none) h1) (fun _ h => AV.non = .bl true) (fun v _ => v = .bl true) noX
  generalize evB ⟨P, run P F (d + 1), F⟩ tl (some (.ref 0) :: some (.ref 2) :: List.replicate m none) h1 = rr at this ⊢
  cases rr with
  | nx σ h => obtain ⟨_, _, _, _, _, _, z⟩ := this; exact z.elim
  | rt v h =>
    obtain ⟨t, u, B, ev, ok, _, _, _, z⟩ := this
    subst ev
    show t.v = .bl true
    rw [(sc_inv ok).2.1 _ z]; rfl
  | ex c fs h => obtain ⟨_, _, _, _, _, z⟩ := this; exact z.elim
  | no => exact this.elim
end
end AH

set_option Elab.async false
set_option linter.all false
set_option maxRecDepth 100000
set_option maxHeartbeats 400000
/-! VW18: steps, one at a time. -/
namespace AH
open PySem L2
@[simp] theorem sqD_l {xs : List PyData} : sqD (.list xs) = some xs := rfl
@[simp] theorem sqD_t {xs : List PyData} : sqD (.tuple xs) = some xs := rfl
section
variable {V : VX} {σ : VSl} {B : Nat} {N : VSl → Nat → Prop} {R Q : WQ} {X : WX}
theorem wB_cons {s : S} {r : AH.B} : wB V (.cons s r) σ B N R X = wS V s σ B (fun σ1 B1 => wB V r σ1 B1 N R X) R X := by rw [wB]
theorem wB_nil : wB V .nil σ B N R X = N σ B := by rw [wB]
theorem wS_asg {i : Nat} {e : E} : wS V (.asg i e) σ B N R X = wE V.toVC e σ B (fun d u B1 => N ((esc σ (vsE e) u).set i (.v d u)) B1) X := by rw [wS]
theorem wS_asgT {gs : Gs} {e : E} : wS V (.asgT gs e) σ B N R X = wE V.toVC e σ B (fun d u B1 => match ownT gs d u with
    | some (is, xs) => N (setV σ is (xs.map fun x => (x, 2))) B1
    | none => optQ (bindG1V (.tp gs) d (esc σ (vsE e) u)) fun σ1 => N σ1 B1) X := by rw [wS] <;> rfl
theorem wS_app {i : Nat} {e : E} : wS V (.ex (.meth .append (.var i) (.cons e .nil))) σ B N R X = ownL σ i fun _ _ => wE V.toVC e σ B (fun d u B1 => ownL (esc σ (vsE e) u) i fun xs w => xs.length < 16777215 ∧ N ((esc σ (vsE e) u).set i (.v (.list (xs ++ [d])) (lvM w u))) B1) X := by rw [wS]
theorem wS_ite {c : E} {a b : AH.B} : wS V (.ite c a b) σ B N R X = wC V false c σ B (fun t σ1 B1 => if t = true then wB V a σ1 B1 N R X else wB V b σ1 B1 N R X) X := by rw [wS]
theorem wS_for {g : G} {it : I} {b : AH.B} : wS V (.forS g it b) σ B N R X = wI V.toVC it σ B (fun its B1 => wFor (fun vs σ1 B2 K => optQ (bindV g vs σ1) fun σ2 => wB V b σ2 B2 K R X) its (clr σ (vsI it)) B1 N) X := by rw [wS]
theorem wS_ret {e : E} (h : isAp e = false) : wS V (.ret e) σ B N R X = wV V.toVC e σ B (fun d u _ B1 => R d u B1) X := by rw [wS, h]; rfl
theorem wC_not {bo : Bool} {a : E} {K : Bool → VSl → Nat → Prop} : wC V bo (.not a) σ B K X = wC V false a σ B (fun t σ1 B1 => K (!t) σ1 B1) X := by rw [wC]
theorem wC_or {bo : Bool} {a b : E} {K : Bool → VSl → Nat → Prop} : wC V bo (.or a b) σ B K X = wC V bo a σ B (fun t σ1 B1 => if t = true then K true σ1 B1 else wC V bo b σ1 B1 K X) X := by rw [wC]
theorem wC_and {bo : Bool} {a b : E} {K : Bool → VSl → Nat → Prop} : wC V bo (.and a b) σ B K X = wC V bo a σ B (fun t σ1 B1 => if t = true then wC V bo b σ1 B1 K X else K false σ1 B1) X := by rw [wC]
theorem wC_ap {bo : Bool} {e : E} {K : Bool → VSl → Nat → Prop} : wC V bo (.call 28 (.cons e .nil)) σ B K X = wV V.toVC e σ B (fun d u mv B1 => u = 2 ∧ V.ap d ∧ K true (kill σ mv) B1) X := by rw [wC]
theorem wC_call {f : Nat} {es : L} {K : Bool → VSl → Nat → Prop} (h : f ≠ 28) : wC V false (.call f es) σ B K X = wE V.toVC (.call f es) σ B (fun d _ B1 => optQ (truthD d) fun t => K t σ B1) X := by
  rcases call_cases V false f es with ⟨e, e1, _⟩ | e
  · exact absurd e1 h
  · rw [e]; rfl
end
section
variable {V : VC} {σ : VSl} {B : Nat} {Q : WQ} {X : WX}
theorem wE_lst {es : L} : wE V (.lst es) σ B Q X = wL V es σ B (fun ds m B1 => ds.length < 16777216 ∧ Q (.list ds) (lvL m) B1) X := by rw [wE]
theorem wE_tup {es : L} : wE V (.tup es) σ B Q X = wL V es σ B (fun ds m B1 => ds.length < 16777216 ∧ Q (.tuple ds) (lvT m) B1) X := by rw [wE]
theorem wE_call {f : Nat} {es : L} : wE V (.call f es) σ B Q X = wA V es σ B (fun as B1 => V.call f as B1 Q X) X := by rw [wE]
theorem wL_cons {e : E} {r : L} {K : List PyData → Nat → Nat → Prop} : wL V (.cons e r) σ B K X = wE V e σ B (fun x u B1 => wL V r σ B1 (fun ds m B2 => K (x :: ds) (min u m) B2) X) X := by rw [wL]
theorem wL_nil {K : List PyData → Nat → Nat → Prop} : wL V .nil σ B K X = K [] 2 B := by rw [wL]
theorem wA_nil {K : List VA → Nat → Prop} : wA V .nil σ B K X = K [] B := by rw [wA]
theorem wA_d {e : E} {r : L} {K : List VA → Nat → Prop} (h : strmAt e σ = false) : wA V (.cons e r) σ B K X = wE V e σ B (fun x _ B1 => wA V r σ B1 (fun as B2 => K (.d x :: as) B2) X) X := by rw [wA, h]
theorem wA_s {e : E} {r : L} {K : List VA → Nat → Prop} (h : strmAt e σ = true) : wA V (.cons e r) σ B K X = wA V r σ B (fun as B2 => K (.strm :: as) B2) X := by rw [wA, h]
end
end AH

set_option Elab.async false
set_option linter.all false
set_option maxRecDepth 100000
set_option maxHeartbeats 1000000
/-! KV1: small functions, told of data. -/
namespace AH
open PySem L2
theorem hb {P : Prog} {f n k : Nat} {b : B} (h : Has P f n k b) : P.body f = some (n, k, b) := h
@[simp] theorem bg_nm {i : Nat} {d : PyData} {σ : VSl} : bindG1V (.nm i) d σ = some (σ.set i (.v d 0)) := rfl
@[simp] theorem bg_t {gs : Gs} {xs : List PyData} {σ : VSl} : bindG1V (.tp gs) (.tuple xs) σ = bindG1V.bindGsV gs xs σ := rfl
@[simp] theorem bg_l {gs : Gs} {xs : List PyData} {σ : VSl} : bindG1V (.tp gs) (.list xs) σ = bindG1V.bindGsV gs xs σ := rfl
@[simp] theorem bgs_nil {σ : VSl} : bindG1V.bindGsV .nil [] σ = some σ := rfl
@[simp] theorem bgs_cons {g : G} {r : Gs} {x : PyData} {xs : List PyData} {σ : VSl} : bindG1V.bindGsV (.cons g r) (x :: xs) σ = (match bindG1V g x σ with | some σ1 => bindG1V.bindGsV r xs σ1 | none => none) := rfl
@[simp] theorem bv_one {g : G} {x : PyData} {σ : VSl} : bindV g [x] σ = bindG1V g x σ := by cases g <;> rfl
@[simp] theorem bv_two {gs : Gs} {x y : PyData} {σ : VSl} : bindV (.tp gs) [x, y] σ = bindG1V.bindGsV gs [x, y] σ := rfl
@[simp] theorem nols_i {i : Int} : nols (.int i) = true := rfl
@[simp] theorem nols_b {i : Bool} : nols (.bool i) = true := rfl
@[simp] theorem nols_s {i : Str} : nols (.str i) = true := rfl
@[simp] theorem nols_n : nols .none = true := rfl
@[simp] theorem nols_l {xs : List PyData} : nols (.list xs) = false := by simp [nols]
@[simp] theorem nols_d {xs} : nols (.dict xs) = true := by simp [nols]
@[simp] theorem lsub_i {u : Nat} {i : Int} : lsub u (.int i) = 2 := by unfold lsub lv0; simp
@[simp] theorem lsub_s {u : Nat} {i : Str} : lsub u (.str i) = 2 := by unfold lsub lv0; simp
@[simp] theorem lsub_b {u : Nat} {i : Bool} : lsub u (.bool i) = 2 := by unfold lsub lv0; simp
@[simp] theorem lv0_i {i : Int} : lv0 (.int i) = 2 := rfl
@[simp] theorem lv0_s {i : Str} : lv0 (.str i) = 2 := rfl
@[simp] theorem lv0_b {i : Bool} : lv0 (.bool i) = 2 := rfl
@[simp] theorem lv0_n : lv0 .none = 2 := rfl
@[simp] theorem lv0_l {xs : List PyData} : lv0 (.list xs) = 0 := by unfold lv0; simp
@[simp] theorem eqW_int {i j : Int} : eqW (.int i) (.int j) = some (i == j) := rfl
@[simp] theorem eqW_str {x y : Str} : eqW (.str x) (.str y) = some (strEq x y) := rfl
@[simp] theorem eqW_bool {x y : Bool} : eqW (.bool x) (.bool y) = some (x == y) := rfl
@[simp] theorem streq_self (x : Str) : strEq x x = true := strEq_refl x
@[simp] theorem se1 : strEq "add" "get" = false := rfl
@[simp] theorem se2 : strEq "get" "add" = false := rfl
@[simp] theorem so_get : strOkD "get" = true := rfl
@[simp] theorem so_add : strOkD "add" = true := rfl
@[simp] theorem at0 {α : Type} {x : α} {xs : List α} : atI (x :: xs) 0 = some x := by simp [atI, ixN]
@[simp] theorem at1 {α : Type} {x y : α} {xs : List α} : atI (x :: y :: xs) 1 = some y := by
  unfold atI ixN
  rw [if_pos (by decide), if_pos (by simp; omega)]
  rfl
@[simp] theorem at2 {α : Type} {x y z : α} {xs : List α} : atI (x :: y :: z :: xs) 2 = some z := by
  unfold atI ixN
  rw [if_pos (by decide), if_pos (by simp; omega)]
  rfl
section
variable {P : Prog} {F d B : Nat} {Q : WQ} {X : WX}
theorem w_isList (h : Has P 856 1 1 b856) (x : PyData) : wrun P F (d + 1) 856 [.d x] B Q X = Q (.bool (sqD x).isSome) 2 B := by
  cases x <;> simp [hb h, b856, wrun, isPrim, wB, wS, isAp, wV, wE, wL, wA, wI, wC, wU, startV, strmAt, permVA, tyD, kdD, kTab, truthD, cmpD, opD, bltD, ixD, slD, optD, sqD, seqD, lv0, lvK, lvL, lvT, lsub, nols, nolsL, esc, clr, clr1, vsE, vsL, vsI, setV, ownL, lvM, kill]
theorem w_isInt (h : Has P 848 1 1 b848) (x : PyData) : wrun P F (d + 1) 848 [.d x] B Q X = Q (.bool (match x with | .int _ => true | _ => false)) 2 B := by
  cases x <;> simp [hb h, b848, wrun, isPrim, wB, wS, isAp, wV, wE, wL, wA, wI, wC, wU, startV, strmAt, permVA, tyD, kdD, kTab, truthD, cmpD, opD, bltD, ixD, slD, optD, sqD, seqD, lv0, lvK, lvL, lvT, lsub, nols, nolsL, esc, clr, clr1, vsE, vsL, vsI, setV, ownL, lvM, kill]
def isNumD (x : PyData) : Bool := match x with | .int i => decide (0 ≤ i) | _ => false
theorem w_isNum (h0 : Has P 848 1 1 b848) (h : Has P 864 1 1 b864) (x : PyData) : wrun P F (d + 2) 864 [.d x] B Q X = Q (.bool (isNumD x)) 2 B := by
  rw [wrun]
  cases x <;> simp [hb h, b864, wB, wS, isAp, wV, wE, wA, strmAt, startV, w_isInt h0, cmpD, truthD, isPrim, isNumD]
end
/-! ### requests and records -/
inductive Rq | get (slot : Nat) | add (slot n : Nat)
def Rq.slot : Rq → Nat | .get s => s | .add s _ => s
def Rq.n : Rq → Nat | .get _ => 0 | .add _ n => n
def Rq.isA : Rq → Bool | .get _ => false | .add _ _ => true
def Rq.okq (r : Rq) : Prop := r.slot < 4 ∧ r.n < 256
def Rq.d : Rq → PyData
  | .get s => .tuple [.str "get", .int s]
  | .add s n => .tuple [.str "add", .int s, .int n]
def Rq.ds : Rq → List PyData
  | .get s => [.str "get", .int s]
  | .add s n => [.str "add", .int s, .int n]
theorem nrmI {x : PyData} {i : Int} (e : nrm x = .int i) : x = .int i := by cases x <;> simp [nrm] at e; rw [e]
theorem nrmS {x : PyData} {i : Str} (e : nrm x = .str i) : x = .str i := by cases x <;> simp [nrm] at e; rw [e]
theorem nrmN {x : PyData} {ds : List PyData} (e : nrm x = .list ds) : ∃ xs, (x = .list xs ∨ x = .tuple xs) ∧ xs.map nrm = ds := by
  cases x <;> simp [nrm, nrmL_map] at e
  · exact ⟨_, .inl rfl, e⟩
  · exact ⟨_, .inr rfl, e⟩
theorem nrmRq {x : PyData} {r : Rq} (e : nrm x = nrm r.d) : x = .list r.ds ∨ x = .tuple r.ds := by
  cases r with
  | get s =>
    simp [Rq.d, nrm, nrmL] at e
    obtain ⟨xs, h1, h2⟩ := nrmN e
    match xs, h2 with
    | [a, b], h2 =>
      simp at h2
      rw [nrmS h2.1, nrmI h2.2] at h1
      exact h1
    | [], h2 => simp at h2
    | [_], h2 => simp at h2
    | _ :: _ :: _ :: _, h2 => simp at h2
  | add s n =>
    simp [Rq.d, nrm, nrmL] at e
    obtain ⟨xs, h1, h2⟩ := nrmN e
    match xs, h2 with
    | [a, b, c], h2 =>
      simp at h2
      rw [nrmS h2.1, nrmI h2.2.1, nrmI h2.2.2] at h1
      exact h1
    | [], h2 => simp at h2
    | [_], h2 => simp at h2
    | [_, _], h2 => simp at h2
    | _ :: _ :: _ :: _ :: _, h2 => simp at h2
/-- a record -/
structure Kr where
  num : Int
  rq : Rq
def Kr.okr (r : Kr) : Prop := 0 < r.num ∧ r.num < 64 ∧ r.rq.okq
def Kr.d (r : Kr) : PyData := .tuple [.int r.num, r.rq.d]
theorem rq_d (r : Rq) : r.d = .tuple r.ds := by cases r <;> rfl
theorem nrmKr {x : PyData} {r : Kr} (e : nrm x = nrm r.d) : ∃ y, (y = .list r.rq.ds ∨ y = .tuple r.rq.ds) ∧ (x = .list [.int r.num, y] ∨ x = .tuple [.int r.num, y]) := by
  simp only [Kr.d, nrm, nrmL_map, List.map_cons, List.map_nil] at e
  obtain ⟨xs, h1, h2⟩ := nrmN e
  match xs, h2 with
  | [a, b], h2 =>
    simp at h2
    have ha : a = .int r.num := nrmI (by simpa [nrm] using h2.1)
    rw [ha] at h1
    exact ⟨b, nrmRq h2.2, h1⟩
  | [], h2 => simp at h2
  | [_], h2 => simp at h2
  | _ :: _ :: _ :: _, h2 => simp at h2
/-- is_kept_request -/
def b852 : B := (.cons (.ite (.or (.not (.call 856 (.cons (.var 0) .nil))) (.or (.cmp .lt (.blt .len (.cons (.var 0) .nil)) (.int 2)) (.not (.isa (.sub (.var 0) (.int 0)) true [.str])))) (.cons (.ret (.bl false))
  .nil) .nil)
  (.cons (.ite (.or (.not (.call 864 (.cons (.sub (.var 0) (.int 1)) .nil))) (.cmp .gt (.sub (.var 0) (.int 1)) (.int 3))) (.cons (.ret (.bl false))
  .nil) .nil)
  (.cons (.ite (.cmp .eq (.sub (.var 0) (.int 0)) (.str "get")) (.cons (.ret (.cmp .eq (.blt .len (.cons (.var 0) .nil)) (.int 2)))
  .nil) .nil)
  (.cons (.ret (.and (.cmp .eq (.sub (.var 0) (.int 0)) (.str "add")) (.and (.cmp .eq (.blt .len (.cons (.var 0) .nil)) (.int 3)) (.and (.call 864 (.cons (.sub (.var 0) (.int 2)) .nil)) (.cmp .lt (.sub (.var 0) (.int 2)) (.int 256))))))
  .nil))))
/-- is_record -/
def b875 : B := (.cons (.ite (.or (.not (.call 856 (.cons (.var 0) .nil))) (.or (.cmp .ne (.blt .len (.cons (.var 0) .nil)) (.int 2)) (.not (.call 864 (.cons (.sub (.var 0) (.int 0)) .nil))))) (.cons (.ret (.bl false))
  .nil) .nil)
  (.cons (.ret (.and (.cmp2 .lt .lt (.int 0) (.sub (.var 0) (.int 0)) (.int 64)) (.call 852 (.cons (.sub (.var 0) (.int 1)) .nil))))
  .nil))
section
variable {P : Prog} {F d B : Nat} {Q : WQ} {X : WX}
structure HasK (P : Prog) : Prop where
  h856 : Has P 856 1 1 b856
  h848 : Has P 848 1 1 b848
  h864 : Has P 864 1 1 b864
  h852 : Has P 852 1 1 b852
  h875 : Has P 875 1 1 b875
theorem w_kept (H : HasK P) {x : PyData} {r : Rq} (hx : x = .list r.ds ∨ x = .tuple r.ds) (hr : r.okq) : wrun P F (d + 3) 852 [.d x] B Q X = Q (.bool true) 2 B := by
  have h1 : ¬ (3 : Int) < r.slot := by have := hr.1; omega
  have h2 : (r.n : Int) < 256 := by have := hr.2; omega
  rw [wrun]
  cases r with
  | get s =>
    simp only [Rq.slot] at h1
    rcases hx with e | e <;> subst e <;> simp [isPrim, hb H.h852, b852, wB, wS, isAp, wC, wV, wE, wA, wL, strmAt, startV, w_isList H.h856, w_isNum H.h848 H.h864, isNumD, sqD, truthD, cmpD, bltD, ixD, tyD, kdD, kTab, Rq.ds, h1]
  | add s n =>
    simp only [Rq.slot, Rq.n] at h1 h2
    rcases hx with e | e <;> subst e <;> simp [isPrim, hb H.h852, b852, wB, wS, isAp, wC, wV, wE, wA, wL, strmAt, startV, w_isList H.h856, w_isNum H.h848 H.h864, isNumD, sqD, truthD, cmpD, bltD, ixD, tyD, kdD, kTab, Rq.ds, h1, h2]
theorem w_record (H : HasK P) {x : PyData} {r : Kr} (hx : nrm x = nrm r.d) (hr : r.okr) : wrun P F (d + 4) 875 [.d x] B Q X = Q (.bool true) 2 B := by
  obtain ⟨y, hy, hx⟩ := nrmKr hx
  obtain ⟨h1, h2, h3⟩ := hr
  rw [wrun]
  rcases hx with e | e <;> subst e <;> simp [isPrim, hb H.h875, b875, wB, wS, isAp, wC, wV, wE, wA, wL, strmAt, startV, w_isList H.h856, w_isNum H.h848 H.h864, w_kept H hy h3, isNumD, sqD, truthD, cmpD, bltD, ixD, h1, h2, Int.le_of_lt h1]
end
end AH

set_option Elab.async false
set_option linter.all false
set_option maxRecDepth 100000
set_option maxHeartbeats 1000000
/-! KV2: k33's functions, told of data. -/
namespace AH
open PySem L2
theorem wFor_inv {turn : List PyData → VSl → Nat → (VSl → Nat → Prop) → Prop} {N : VSl → Nat → Prop} (I : Nat → VSl → Nat → Prop) : ∀ (its : List (List PyData)) (i : Nat) (σ : VSl) (B : Nat), I i σ B → (∀ j (hj : j < its.length) σ B K, I (i + j) σ B → (∀ σ' B', I (i + j + 1) σ' B' → K σ' B') → turn its[j] σ B K) → (∀ σ B, I (i + its.length) σ B → N σ B) → wFor turn its σ B N
  | [], i, σ, B, h0, hs, he => he σ B h0
  | x :: r, i, σ, B, h0, hs, he => by
    refine hs 0 (by simp) σ B _ h0 fun σ' B' h1 => ?_
    refine wFor_inv I r (i + 1) σ' B' h1 (fun j hj σ B K h2 k => ?_) fun σ B h2 => he σ B (by simpa [Nat.add_assoc, Nat.add_comm 1] using h2)
    have := hs (j + 1) (by simpa using hj) σ B K (by simpa [Nat.add_assoc, Nat.add_comm 1] using h2) fun σ' B' h3 => k σ' B' (by simpa [Nat.add_assoc, Nat.add_comm 1] using h3)
    simpa using this
theorem wComp_map {turn : List PyData → Nat → (Option (PyData × Nat) → Nat → Prop) → Prop} {f : List PyData → PyData} {Q : List PyData → Nat → Nat → Prop} {B : Nat} : ∀ (its : List (List PyData)) (acc : List PyData), (∀ x ∈ its, ∀ K : Option (PyData × Nat) → Nat → Prop, K (some (f x, 2)) B → turn x B K) → acc.length + its.length ≤ 16777216 → Q (acc ++ its.map f) 2 B → wComp turn its acc 2 B Q
  | [], acc, hs, hl, q => by simpa [wComp] using q
  | x :: r, acc, hs, hl, q => by
    simp only [wComp]
    simp only [List.length_cons] at hl
    refine hs x (by simp) _ ⟨by omega, ?_⟩
    exact wComp_map r (acc ++ [f x]) (fun y hy => hs y (by simp [hy])) (by simp; omega) (by simpa using q)
theorem wComp_list {turn : List PyData → Nat → (Option (PyData × Nat) → Nat → Prop) → Prop} {Q : List PyData → Nat → Nat → Prop} {B : Nat} : ∀ (its : List (List PyData)) (acc ys : List PyData), its.length = ys.length → (∀ i (h1 : i < its.length) (h2 : i < ys.length), ∀ K : Option (PyData × Nat) → Nat → Prop, K (some (ys[i], 2)) B → turn its[i] B K) → acc.length + its.length ≤ 16777216 → Q (acc ++ ys) 2 B → wComp turn its acc 2 B Q
  | [], acc, [], e, hs, hl, q => by simpa [wComp] using q
  | [], acc, _ :: _, e, hs, hl, q => by simp at e
  | _ :: _, acc, [], e, hs, hl, q => by simp at e
  | x :: r, acc, y :: ys, e, hs, hl, q => by
    simp only [wComp]
    simp only [List.length_cons] at hl e
    refine hs 0 (by simp) (by simp) _ ⟨by omega, ?_⟩
    exact wComp_list r (acc ++ [y]) ys (by omega) (fun i h1 h2 K k => hs (i + 1) (by simpa using h1) (by simpa using h2) K k) (by simp; omega) (by simpa using q)
theorem enumD_get : ∀ (xs : List PyData) (s : Int) (j : Nat) (hj : j < (enumD s xs).length) (hj' : j < xs.length), (enumD s xs)[j] = [.int (s + j), xs[j]]
  | x :: r, s, 0, _, _ => by simp [enumD]
  | x :: r, s, j + 1, h1, h2 => by
    simp only [enumD, List.getElem_cons_succ]
    rw [enumD_get r (s + 1) j (by simpa [enumD] using h1) (by simpa using h2)]
    simp; omega
theorem enumD_len : ∀ (xs : List PyData) (s : Int), (enumD s xs).length = xs.length
  | [], _ => rfl
  | x :: r, s => by simp [enumD, enumD_len r]
theorem seqD_of {x : PyData} {xs : List PyData} (h : sqD x = some xs) : seqD x = some xs := by cases x <;> simp [sqD, seqD] at h ⊢ <;> exact h
/-- told_pair -/
def b1190 : B := (.cons (.ret (.tup (.cons (.sub (.var 0) (.int 0)) (.cons (.tupE (.sub (.var 0) (.int 1))) .nil))))
  .nil)
/-- known_records -/
def b913 : B := (.cons (.ite (.not (.call 856 (.cons (.var 0) .nil))) (.cons (.raise 29 (.cons (.int 0) .nil))
  .nil) .nil)
  (.cons (.forS (.tp (.cons (.nm 1) (.cons (.nm 2) .nil))) (.enum (.var 0)) (.cons (.ite (.not (.call 875 (.cons (.var 2) .nil))) (.cons (.raise 29 (.cons (.var 1) .nil))
  .nil) .nil)
  .nil))
  (.cons (.ret (.lc (.call 1190 (.cons (.var 2) .nil)) (.nm 2) (.seq (.var 0)) [2]))
  .nil)))
structure HasK2 (P : Prog) : Prop extends HasK P where
  h1190 : Has P 1190 1 1 b1190
  h913 : Has P 913 3 1 b913
  c29 : P.cls 29 = some [2]
section
variable {P : Prog} {F d B : Nat} {Q : WQ} {X : WX}
theorem w_pair (H : HasK2 P) {x : PyData} {r : Kr} (hx : nrm x = nrm r.d) (k : Q r.d 2 B) : wrun P F (d + 1) 1190 [.d x] B Q X := by
  obtain ⟨y, hy, hx⟩ := nrmKr hx
  have e : r.d = .tuple [.int r.num, .tuple r.rq.ds] := by rw [Kr.d, rq_d]
  have n2 : nols (.tuple r.rq.ds) = true := by cases r.rq <;> rfl
  rw [e] at k
  have hy' : sqD y = some r.rq.ds := by rcases hy with e | e <;> subst e <;> rfl
  rw [wrun]
  rcases hx with e | e <;> subst e <;> simp [isPrim, hb H.h1190, b1190, wB, wS, isAp, wV, wV.wVL, wE, startV, ixD, hy', lvT, lv0, n2, lsub, k]
theorem w_known (H : HasK2 P) {x : PyData} {xs : List PyData} {rs : List Kr} (hx : sqD x = some xs) (hr : xs.map nrm = rs.map (fun r => nrm r.d)) (ho : ∀ r ∈ rs, r.okr) (hl : xs.length < 16777216) (k : Q (.list (rs.map Kr.d)) 2 B) : wrun P F (d + 6) 913 [.d x] B Q X := by
  have hx' : seqD x = some xs := seqD_of hx
  have hlen : xs.length = rs.length := by simpa using congrArg List.length hr
  have hi : ∀ j (h1 : j < xs.length) (h2 : j < rs.length), nrm xs[j] = nrm (rs[j]).d := fun j h1 h2 => by
    have := congrArg (fun l => l[j]?) hr
    simp only [List.getElem?_map, List.getElem?_eq_getElem h1, List.getElem?_eq_getElem h2] at this
    simpa using this
  rw [wrun]
  simp only [isPrim, hb H.h913, b913, wB, wS, wC, wE, wA, strmAt, startV, w_isList H.h856, hx, wI, List.map_cons, List.map_nil, List.length_cons, List.length_nil, List.append, List.cons_append, List.nil_append, List.replicate, List.getElem?_cons_zero, Option.isSome, truthD, optQ_some, Bool.not_true, if_true, if_false]
  simp [strmAt, hx, vsI, vsE, clr, clr1, w_isList H.h856, truthD, wB]
  refine wFor_inv (fun i σ B' => B' = B ∧ ∃ a b, σ = [.v x 0, a, b]) _ 0 _ _ ⟨rfl, _, _, rfl⟩ (fun j hj σ B' K h0 k => ?_) fun σ B' h0 => ?_
  · obtain ⟨e, a, b, e2⟩ := h0
    subst e
    subst e2
    have hj' : j < xs.length := by simpa [enumD_len] using hj
    rw [enumD_get _ _ _ hj hj']
    simp [strmAt]
    rw [w_record H.toHasK (hi j hj' (by omega)) (ho _ (List.getElem_mem _))]
    simp [truthD, wB]
    exact k _ _ ⟨rfl, _, _, rfl⟩
  · obtain ⟨e, a, b, e2⟩ := h0
    subst e
    subst e2
    simp [isAp, wV, wE, wI, hx']
    refine wComp_list (xs.map fun x => [x]) [] (rs.map Kr.d) (by simpa using hlen) (fun i h1 h2 K k => ?_) (by simp; omega) ?_
    · have h1' : i < xs.length := by simpa using h1
      have h2' : i < rs.length := by simpa using h2
      simp [wipeV, strmAt, wA, wE]
      refine w_pair H (hi i h1' h2') ?_
      simpa using k
    · simp
      exact ⟨by omega, by simpa [lvL] using k⟩
end
end AH

set_option Elab.async false
set_option linter.all false
set_option maxRecDepth 100000
set_option maxHeartbeats 1000000
/-! KV3: k33's functions, more. -/
namespace AH
open PySem L2
def upd (S : List Int) (r : Rq) : List Int := if r.isA = true then S.set r.slot ((S.getD r.slot 0 + r.n) % 65536) else S
theorem upd_len {S : List Int} {r : Rq} : (upd S r).length = S.length := by unfold upd; split <;> simp
def kstep (p : List (Int × Int) × List Int) (r : Kr) : List (Int × Int) × List Int := (p.1 ++ [(r.num, (upd p.2 r.rq).getD r.rq.slot 0)], upd p.2 r.rq)
def kst (rs : List Kr) : List (Int × Int) × List Int := rs.foldl kstep ([], [0, 0, 0, 0])
def pairD (p : Int × Int) : PyData := .tuple [.int p.1, .int p.2]
theorem kst_snoc {rs : List Kr} {r : Kr} : kst (rs ++ [r]) = kstep (kst rs) r := by simp [kst]
theorem kst_len2 : ∀ (rs : List Kr) (p : List (Int × Int) × List Int), (rs.foldl kstep p).2.length = p.2.length
  | [], p => rfl
  | r :: rs, p => by simp only [List.foldl_cons]; rw [kst_len2 rs]; simp [kstep, upd_len]
theorem kst_len1 : ∀ (rs : List Kr) (p : List (Int × Int) × List Int), (rs.foldl kstep p).1.length = p.1.length + rs.length
  | [], p => rfl
  | r :: rs, p => by simp only [List.foldl_cons]; rw [kst_len1 rs]; simp [kstep]; omega
theorem kst_four (rs : List Kr) : (kst rs).2.length = 4 := kst_len2 rs _
theorem kst_many (rs : List Kr) : (kst rs).1.length = rs.length := by show (rs.foldl kstep ([], [0, 0, 0, 0])).1.length = _; rw [kst_len1]; simp
@[simp] theorem nolsL_int (S : List Int) : nolsL (S.map PyData.int) = true := by
  induction S with
  | nil => rfl
  | cons x r ih => simp [nolsL, ih]
@[simp] theorem nolsL_pair (S : List (Int × Int)) : nolsL (S.map pairD) = true := by
  induction S with
  | nil => rfl
  | cons x r ih => simp [nolsL, ih, pairD, nols]
theorem ixN_nat {n k : Nat} (h : k < n) : ixN n (k : Int) = some k := by
  unfold ixN
  rw [if_pos (by omega), if_pos (by omega)]
  simp
theorem atI_int {S : List Int} {k : Nat} (h : k < S.length) : atI (S.map PyData.int) (k : Int) = some (.int (S.getD k 0)) := by
  unfold atI
  rw [ixN_nat (by simpa using h)]
  simp [h]
/-- done_by -/
def b792 : B := (.cons (.asg 2 (.lstE (.var 0)))
  (.cons (.ite (.cmp .eq (.sub (.var 1) (.int 0)) (.str "add")) (.cons (.setix (.var 2) (.sub (.var 1) (.int 1)) (.bin .mod (.bin .add (.sub (.var 2) (.sub (.var 1) (.int 1))) (.sub (.var 1) (.int 2))) (.int 65536)))
  .nil) .nil)
  (.cons (.ret (.tup (.cons (.var 2) (.cons (.sub (.var 2) (.sub (.var 1) (.int 1))) .nil))))
  .nil)))
/-- _law_kee_done -/
def b212 : B := (.cons (.asg 2 (.lstE (.var 0)))
  (.cons (.ite (.cmp .eq (.sub (.var 1) (.int 0)) (.str "add")) (.cons (.setix (.var 2) (.sub (.var 1) (.int 1)) (.bin .mod (.blt .int (.cons (.bin .add (.sub (.var 2) (.sub (.var 1) (.int 1))) (.sub (.var 1) (.int 2))) .nil)) (.int 65536)))
  .nil) .nil)
  (.cons (.ret (.tup (.cons (.var 2) (.cons (.sub (.var 2) (.sub (.var 1) (.int 1))) .nil))))
  .nil)))
def allW (f : Nat) : B := (.cons (.asg 2 (.lst .nil))
  (.cons (.forS (.tp (.cons (.nm 3) (.cons (.nm 4) .nil))) (.seq (.var 1)) (.cons (.asgT (.cons (.nm 0) (.cons (.nm 5) .nil)) (.call f (.cons (.var 0) (.cons (.var 4) .nil))))
  (.cons (.ex (.meth .append (.var 2) (.cons (.tup (.cons (.var 3) (.cons (.var 5) .nil))) .nil)))
  .nil)))
  (.cons (.ret (.tup (.cons (.lstE (.var 0)) (.cons (.var 2) .nil))))
  .nil)))
section
variable {P : Prog} {F d B : Nat} {Q : WQ} {X : WX}
def doneD (S : List Int) (r : Rq) : PyData := .tuple [.list ((upd S r).map .int), .int ((upd S r).getD r.slot 0)]
theorem w_done (h : Has P 792 3 2 b792) {S : List Int} {r : Rq} (hS : S.length = 4) (hr : r.okq) (k : Q (doneD S r) 2 B) : wrun P F (d + 1) 792 [.d (.list (S.map .int)), .d r.d] B Q X := by
  have h1 : r.slot < S.length := by rw [hS]; exact hr.1
  have h2 : r.slot < (upd S r).length := by rw [upd_len]; exact h1
  unfold doneD at k
  rw [wrun]
  cases r with
  | get s =>
    simp only [Rq.slot] at h1 h2
    simp only [upd, Rq.isA, Rq.slot] at k
    simp [isPrim, hb h, b792, wB, wS, wC, wE, sqD, startV, Rq.d, ixD, cmpD, truthD, lvK, esc, isAp, wV, wV.wVL, lvT, atI_int h1]
    simpa using k
  | add s n =>
    simp only [Rq.slot] at h1 h2
    simp only [upd, Rq.isA, Rq.slot, Rq.n, if_true] at k
    have h3 : ixN S.length (s : Int) = some s := ixN_nat h1
    have e1 : ∀ v : Int, (S.map PyData.int).set s (.int v) = (S.set s v).map PyData.int := fun v => by rw [List.map_set]
    have h4 : ∀ v : Int, s < (S.set s v).length := fun v => by simpa using h1
    simp [-List.map_set, isPrim, hb h, b792, wB, wS, wC, wE, sqD, startV, Rq.d, ixD, cmpD, truthD, lvK, esc, isAp, wV, wV.wVL, lvT, atI_int h1, opD, ownL, h3, lvM, e1, atI_int (h4 _)]
    simpa using k
theorem w_keedone (h : Has P 212 3 2 b212) {S : List Int} {r : Rq} (hS : S.length = 4) (hr : r.okq) (k : Q (doneD S r) 2 B) : wrun P F (d + 1) 212 [.d (.list (S.map .int)), .d r.d] B Q X := by
  have h1 : r.slot < S.length := by rw [hS]; exact hr.1
  have h2 : r.slot < (upd S r).length := by rw [upd_len]; exact h1
  unfold doneD at k
  rw [wrun]
  cases r with
  | get s =>
    simp only [Rq.slot] at h1 h2
    simp only [upd, Rq.isA, Rq.slot] at k
    simp [isPrim, hb h, b212, wB, wS, wC, wE, sqD, startV, Rq.d, ixD, cmpD, truthD, lvK, esc, isAp, wV, wV.wVL, lvT, atI_int h1]
    simpa using k
  | add s n =>
    simp only [Rq.slot] at h1 h2
    simp only [upd, Rq.isA, Rq.slot, Rq.n, if_true] at k
    have h3 : ixN S.length (s : Int) = some s := ixN_nat h1
    have e1 : ∀ v : Int, (S.map PyData.int).set s (.int v) = (S.set s v).map PyData.int := fun v => by rw [List.map_set]
    have h4 : ∀ v : Int, s < (S.set s v).length := fun v => by simpa using h1
    simp [-List.map_set, isPrim, hb h, b212, wB, wS, wC, wE, wL, bltD, sqD, startV, Rq.d, ixD, cmpD, truthD, lvK, esc, isAp, wV, wV.wVL, lvT, atI_int h1, opD, ownL, h3, lvM, e1, atI_int (h4 _)]
    simpa using k
theorem w_all {f g : Nat} (hpr : isPrim g = false) (h : Has P g 6 2 (allW f)) (hd : ∀ {S : List Int} {r : Rq} {B : Nat} {Q : WQ} {X : WX}, S.length = 4 → r.okq → Q (doneD S r) 2 B → wrun P F d f [.d (.list (S.map .int)), .d r.d] B Q X) {rs : List Kr} (ho : ∀ r ∈ rs, r.okr) (hl : rs.length < 16777216) (k : Q (.tuple [.list ((kst rs).2.map .int), .list ((kst rs).1.map pairD)]) 2 B) : wrun P F (d + 1) g [.d (.list ([0, 0, 0, 0].map .int)), .d (.list (rs.map Kr.d))] B Q X := by
  rw [wrun]
  simp [hpr, hb h, allW, wB, wS, wE, wL, wI, seqD, startV, lvL, esc, clr, clr1, vsI, vsE, vsL]
  rw [show List.map ((fun x => [x]) ∘ Kr.d) rs = rs.map (fun r => [r.d]) from rfl]
  refine wFor_inv (fun i σ B' => B' = B ∧ ∃ (u : Nat) (a b c : VS), σ = [.v (.list ((kst (rs.take i)).2.map .int)) u, .v (.list (rs.map Kr.d)) 0, .v (.list ((kst (rs.take i)).1.map pairD)) 2, a, b, c]) (rs.map fun r => [r.d]) 0 _ _ ⟨rfl, _, _, _, _, rfl⟩ (fun j hj σ B' K h0 k => ?_) fun σ B' h0 => ?_
  · obtain ⟨e, u, a, b, c, e2⟩ := h0
    subst e
    subst e2
    have hj' : j < rs.length := by simpa using hj
    have hs : kst (rs.take (j + 1)) = kstep (kst (rs.take j)) rs[j] := by rw [take_step hj', kst_snoc]
    have hk := ho _ (List.getElem_mem hj')
    simp only [List.getElem_map]
    rw [show (rs[j]).d = .tuple [.int (rs[j]).num, (rs[j]).rq.d] from rfl]
    simp [wA, strmAt, wE]
    refine hd (kst_four _) hk.2.2 ?_
    simp only [Nat.zero_add] at k
    rw [hs] at k
    have k' := k [.v (.list ((kstep (kst (rs.take j)) rs[j]).2.map .int)) 2, .v (.list (rs.map Kr.d)) 0, .v (.list ((kstep (kst (rs.take j)) rs[j]).1.map pairD)) 2, .v (.int (rs[j]).num) 0, .v (rs[j]).rq.d 0, .v (.int ((upd (kst (rs.take j)).2 (rs[j]).rq).getD (rs[j]).rq.slot 0)) 2] B' ⟨rfl, _, _, _, _, rfl⟩
    have hlk := kst_many (rs.take j)
    have e9 : (kst (rs.take j)).1.length < 16777215 := by rw [hlk]; simp; omega
    simp [esc, doneD, wB, wS, ownL, wE, wL, lv0, lvT, lvM, e9]
    simpa [kstep, pairD, Kr.d] using k'
  · obtain ⟨e, u, a, b, c, e2⟩ := h0
    subst e
    subst e2
    have e7 : rs.take (0 + (rs.map (fun r => [r.d])).length) = rs := List.take_of_length_le (by simp)
    rw [e7]
    simp [isAp, wV, wV.wVL, wE, sqD, lvK, lvT]
    exact k
end
end AH

set_option Elab.async false
set_option linter.all false
set_option maxRecDepth 100000
set_option maxHeartbeats 1000000
/-! KV4: k33's functions, more. -/
namespace AH
open PySem L2
/-- last_ones -/
def b917 : B := (.cons (.ret (.sl (.var 0) (.blt .max2 (.cons (.int 0) (.cons (.bin .sub (.blt .len (.cons (.var 0) .nil)) (.var 1)) .nil))) .non))
  .nil)
/-- known_many -/
def b912 : B := (.cons (.ite (.not (.call 864 (.cons (.var 0) .nil))) (.cons (.raise 18 (.cons (.var 0) .nil))
  .nil) .nil)
  (.cons (.ret (.var 0))
  .nil))
/-- sums_after -/
def b1168 : B := (.cons (.ret (.sub (.call 791 (.cons (.lst (.cons (.int 0) (.cons (.int 0) (.cons (.int 0) (.cons (.int 0) .nil))))) (.cons (.call 913 (.cons (.var 0) .nil)) .nil))) (.int 0)))
  .nil)
/-- answers_of -/
def b679 : B := (.cons (.ret (.lc (.var 2) (.tp (.cons (.nm 1) (.cons (.nm 2) .nil))) (.seq (.sub (.call 791 (.cons (.lst (.cons (.int 0) (.cons (.int 0) (.cons (.int 0) (.cons (.int 0) .nil))))) (.cons (.call 913 (.cons (.var 0) .nil)) .nil))) (.int 1))) [1, 2]))
  .nil)
/-- table_behind -/
def b1173 : B := (.cons (.asg 2 (.call 913 (.cons (.var 0) .nil)))
  (.cons (.ret (.call 917 (.cons (.sub (.call 791 (.cons (.lst (.cons (.int 0) (.cons (.int 0) (.cons (.int 0) (.cons (.int 0) .nil))))) (.cons (.var 2) .nil))) (.int 1)) (.cons (.call 912 (.cons (.var 1) .nil)) .nil))))
  .nil))
structure HasK4 (P : Prog) : Prop extends HasK2 P where
  h792 : Has P 792 3 2 b792
  h791 : Has P 791 6 2 (allW 792)
  h917 : Has P 917 2 2 b917
  h912 : Has P 912 1 1 b912
  h1168 : Has P 1168 1 1 b1168
  h679 : Has P 679 3 1 b679
  h1173 : Has P 1173 3 2 b1173
  c18 : P.cls 18 = some [0]
/-- a list of records -/
def Good (x : PyData) (rs : List Kr) : Prop := ∃ xs, sqD x = some xs ∧ xs.map nrm = rs.map (fun r => nrm r.d) ∧ (∀ r ∈ rs, r.okr) ∧ xs.length < 16777216
def NotRec (P : Prog) (F : Nat) (x : PyData) : Prop := ∀ (d B : Nat) (Q : WQ) (X : WX), Q (.bool false) 2 B → wrun P F (d + 4) 875 [.d x] B Q X
/-- none, first at an index -/
def BadAt (P : Prog) (F : Nat) (x : PyData) (k : Int) : Prop := (sqD x = none ∧ k = 0) ∨ ∃ (xs pre : List PyData) (bad : PyData) (post : List PyData) (rs : List Kr), sqD x = some xs ∧ xs = pre ++ bad :: post ∧ pre.map nrm = rs.map (fun r : Kr => nrm r.d) ∧ (∀ r ∈ rs, r.okr) ∧ k = (pre.length : Int) ∧ NotRec P F bad
section
variable {P : Prog} {F d B : Nat} {Q : WQ} {X : WX}
theorem w_bad (H : HasK2 P) {x : PyData} {k : Int} (h : BadAt P F x k) (q : X 29 [(2, .int k)] B) : wrun P F (d + 6) 913 [.d x] B Q X := by
  rw [wrun]
  rcases h with ⟨h1, rfl⟩ | ⟨xs, pre, bad, post, rs, h1, h2, h3, h4, rfl, h5⟩
  · simp [isPrim, hb H.h913, b913, wB, wS, wC, wE, wA, wL, strmAt, startV, w_isList H.h856, h1, truthD, H.c29]
    exact q
  · have hlen : pre.length = rs.length := by simpa using congrArg List.length h3
    have hi : ∀ j (h1 : j < pre.length) (h2 : j < rs.length), nrm pre[j] = nrm (rs[j]).d := fun j h1 h2 => by
      have := congrArg (fun l => l[j]?) h3
      simp only [List.getElem?_map, List.getElem?_eq_getElem h1, List.getElem?_eq_getElem h2] at this
      simpa using this
    simp [isPrim, hb H.h913, b913, wB, wS, wC, wE, wA, wL, wI, strmAt, startV, w_isList H.h856, h1, truthD, vsI, vsE, clr, clr1]
    refine wFor_inv (fun i σ B' => B' = B ∧ i ≤ pre.length ∧ ∃ a b, σ = [.v x 0, a, b]) _ 0 _ _ ⟨rfl, by omega, _, _, rfl⟩ (fun j hj σ B' K h0 k => ?_) fun σ B' h0 => ?_
    · obtain ⟨e, hjp, a, b, e2⟩ := h0
      subst e
      subst e2
      have hj' : j < xs.length := by simpa [enumD_len] using hj
      rw [enumD_get _ _ _ hj hj']
      simp [strmAt]
      by_cases hlt : j < pre.length
      · have ex : xs[j] = pre[j] := by subst h2; rw [List.getElem_append_left hlt]
        rw [ex, w_record H.toHasK (hi j hlt (by omega)) (h4 _ (List.getElem_mem _))]
        simp [truthD, wB]
        exact k _ _ ⟨rfl, by omega, _, _, rfl⟩
      · have ej : j = pre.length := by omega
        have ex : xs[j] = bad := by subst h2; subst ej; simp
        rw [ex]
        refine h5 (d + 1) _ _ _ ?_
        simp [truthD, wB, wS, wL, wE, H.c29]
        rw [ej]; exact q
    · obtain ⟨e, hjp, a, b, e2⟩ := h0
      exfalso
      rw [enumD_len, h2] at hjp
      simp at hjp
      omega
theorem w_good (H : HasK2 P) {x : PyData} {rs : List Kr} (h : Good x rs) (k : Q (.list (rs.map Kr.d)) 2 B) : wrun P F (d + 6) 913 [.d x] B Q X := by
  obtain ⟨xs, h1, h2, h3, h4⟩ := h
  exact w_known H h1 h2 h3 h4 k
theorem Good.len {x : PyData} {rs : List Kr} (h : Good x rs) : rs.length < 16777216 := by
  obtain ⟨xs, h1, h2, h3, h4⟩ := h
  have : xs.length = rs.length := by simpa using congrArg List.length h2
  omega
theorem Good.ok {x : PyData} {rs : List Kr} (h : Good x rs) : ∀ r ∈ rs, r.okr := by
  obtain ⟨xs, h1, h2, h3, h4⟩ := h
  exact h3
theorem w_791 (H : HasK4 P) {rs : List Kr} (ho : ∀ r ∈ rs, r.okr) (hl : rs.length < 16777216) (k : Q (.tuple [.list ((kst rs).2.map .int), .list ((kst rs).1.map pairD)]) 2 B) : wrun P F (d + 2) 791 [.d (.list [.int 0, .int 0, .int 0, .int 0]), .d (.list (rs.map Kr.d))] B Q X :=
  w_all (d := d + 1) (f := 792) rfl H.h791 (fun h1 h2 k => w_done H.h792 h1 h2 k) ho hl k
theorem w_sums (H : HasK4 P) {x : PyData} {rs : List Kr} (h : Good x rs) (k : Q (.list ((kst rs).2.map .int)) 2 B) : wrun P F (d + 7) 1168 [.d x] B Q X := by
  rw [wrun]
  simp [isPrim, hb H.h1168, b1168, wB, wS, isAp, wV, wE, wA, wL, strmAt, startV]
  refine w_good H.toHasK2 h ?_
  refine w_791 (d := d + 4) H h.ok h.len ?_
  simpa [ixD, lsub] using k
theorem w_sumsB (H : HasK4 P) {x : PyData} {k : Int} (h : BadAt P F x k) (q : X 29 [(2, .int k)] B) : wrun P F (d + 7) 1168 [.d x] B Q X := by
  rw [wrun]
  simp [isPrim, hb H.h1168, b1168, wB, wS, isAp, wV, wE, wA, wL, strmAt, startV]
  exact w_bad H.toHasK2 h q
theorem w_answers (H : HasK4 P) {x : PyData} {rs : List Kr} (h : Good x rs) (k : Q (.list ((kst rs).1.map fun p => .int p.2)) 2 B) : wrun P F (d + 7) 679 [.d x] B Q X := by
  rw [wrun]
  simp [isPrim, hb H.h679, b679, wB, wS, isAp, wV, wE, wI, wA, wL, strmAt, startV]
  refine w_good H.toHasK2 h ?_
  refine w_791 (d := d + 4) H h.ok h.len ?_
  simp [ixD, seqD]
  have hl := h.len
  have hm := kst_many rs
  refine wComp_list _ [] ((kst rs).1.map fun p => .int p.2) (by simp) (fun i h1 h2 K k => ?_) (by simp; omega) ?_
  · have h1' : i < (kst rs).1.length := by simpa using h1
    simp only [List.getElem_map, Function.comp_def] at k ⊢
    simp [wipeV, pairD]
    exact k
  · simp
    exact ⟨by omega, by simpa [lvL] using k⟩
theorem w_answersB (H : HasK4 P) {x : PyData} {k : Int} (h : BadAt P F x k) (q : X 29 [(2, .int k)] B) : wrun P F (d + 7) 679 [.d x] B Q X := by
  rw [wrun]
  simp [isPrim, hb H.h679, b679, wB, wS, isAp, wV, wE, wI, wA, wL, strmAt, startV]
  exact w_bad H.toHasK2 h q
/-- the last pairs -/
def lastD (ps : List (Int × Int)) (many : Int) : List PyData := cutA (ps.map pairD) (some (if ((ps.length : Int) - many) > 0 then (ps.length : Int) - many else 0)) none
theorem nolsL_cut {xs : List PyData} {lo hi : Option Int} (h : nolsL xs = true) : nolsL (cutA xs lo hi) = true := by
  have : ∀ {ys : List PyData}, (∀ y ∈ ys, nols y = true) → nolsL ys = true := by
    intro ys
    induction ys with
    | nil => intro _; rfl
    | cons y r ih => intro h; simp [nolsL, h y (by simp), ih fun z hz => h z (by simp [hz])]
  have this2 : ∀ {ys : List PyData}, nolsL ys = true → ∀ y ∈ ys, nols y = true := by
    intro ys
    induction ys with
    | nil => intro _ y hy; simp at hy
    | cons y r ih =>
      intro h z hz
      simp only [nolsL, Bool.and_eq_true] at h
      rcases List.mem_cons.1 hz with e | e
      · subst e; exact h.1
      · exact ih h.2 z e
  exact this fun y hy => this2 h y (cutA_mem hy)
theorem w_table (H : HasK4 P) {x : PyData} {rs : List Kr} {many : Int} (h : Good x rs) (hm : 0 ≤ many) (k : Q (.list (lastD (kst rs).1 many)) 2 B) : wrun P F (d + 7) 1173 [.d x, .d (.int many)] B Q X := by
  rw [wrun]
  simp [isPrim, hb H.h1173, b1173, wB, wS, wE, wA, wL, strmAt, startV]
  refine w_good H.toHasK2 h ?_
  simp [esc, isAp, wV, wE, wA, wL, strmAt]
  refine w_791 (d := d + 4) H h.ok h.len ?_
  simp [ixD]
  rw [wrun]
  simp [isPrim, hb H.h912, b912, wB, wS, wC, wE, wA, strmAt, startV, w_isNum H.h848 H.h864, isNumD, hm, truthD, isAp, wV]
  rw [wrun]
  simp [isPrim, hb H.h917, b917, wB, wS, wE, wL, startV, isAp, wV, bltD, opD, optD, slD, lvK]
  have e : ∀ z w, nolsL (cutA ((kst rs).1.map pairD) z w) = true := fun z w => nolsL_cut (nolsL_pair _)
  unfold lastD at k
  simpa [e] using k
theorem w_tableB (H : HasK4 P) {x y : PyData} {k : Int} (h : BadAt P F x k) (q : X 29 [(2, .int k)] B) : wrun P F (d + 7) 1173 [.d x, .d y] B Q X := by
  rw [wrun]
  simp [isPrim, hb H.h1173, b1173, wB, wS, wE, wA, wL, strmAt, startV]
  exact w_bad H.toHasK2 h q
theorem w_tableM (H : HasK4 P) {x y : PyData} {rs : List Kr} (h : Good x rs) (hm : isNumD y = false) (q : X 18 [(0, y)] B) : wrun P F (d + 7) 1173 [.d x, .d y] B Q X := by
  rw [wrun]
  simp [isPrim, hb H.h1173, b1173, wB, wS, wE, wA, wL, strmAt, startV]
  refine w_good H.toHasK2 h ?_
  simp [esc, isAp, wV, wE, wA, wL, strmAt]
  refine w_791 (d := d + 4) H h.ok h.len ?_
  simp [ixD]
  rw [wrun]
  simp [isPrim, hb H.h912, b912, wB, wS, wC, wE, wA, wL, strmAt, startV, w_isNum H.h848 H.h864, hm, truthD, H.c18]
  exact q
end
end AH

set_option Elab.async false
set_option linter.all false
set_option maxRecDepth 100000
set_option maxHeartbeats 1000000
/-! KV5: the shared helpers as primitives; drawn records. -/
namespace AH
open PySem L2
structure HasPr (P : Prog) : Prop where
  s109 : (P.body 109).isSome = true
  s431 : (P.body 431).isSome = true
  s101 : (P.body 101).isSome = true
  s491 : (P.body 491).isSome = true
  s296 : (P.body 296).isSome = true
  s28 : (P.body 28).isSome = true
section
variable {P : Prog} {F d B : Nat} {Q : WQ} {X : WX}
theorem w_draw (H : HasPr P) {m : Int} (h0 : 0 < m) (h1 : m < 1073741824) (hB : B < 1099511627776) (k : ∀ v, 0 ≤ v → v < m → Q (.int v) 2 (B + 1)) : wrun P F (d + 1) 109 [.strm, .d (.int m)] B Q X := by
  rw [wrun]
  simp only [isPrim, beq_self_eq_true, Bool.true_or, if_true]
  exact ⟨H.s109, h0, h1, hB, k⟩
theorem w_pick (H : HasPr P) {x : PyData} {xs : List PyData} (hx : sqD x = some xs) (h0 : xs ≠ []) (h1 : xs.length < 1073741824) (hB : B < 1099511627776) (k : ∀ y ∈ xs, Q y (lv0 y) (B + 1)) : wrun P F (d + 2) 431 [.strm, .d x] B Q X := by
  rw [wrun]
  simp only [isPrim, beq_self_eq_true, Bool.true_or, Bool.or_true, if_true]
  refine ⟨H.s431, ?_⟩
  show optQ (sqOf x) _
  rw [sqOf_sqD, hx]
  exact ⟨by omega, h0, h1, hB, k⟩
theorem w_copied (H : HasPr P) {x : PyData} (h : ddp x ≤ d) (k : Q x 2 B) : wrun P F (d + 1) 101 [.d x] B Q X := by
  rw [wrun]
  simp only [isPrim, beq_self_eq_true, Bool.true_or, Bool.or_true, if_true]
  exact ⟨H.s101, h, k⟩
theorem w_same (H : HasPr P) {x y : PyData} (e : x = y) (h : ddp x ≤ d) (k : Q (.bool true) 2 B) : wrun P F (d + 1) 491 [.d x, .d y] B Q X := by
  rw [wrun]
  simp only [isPrim, beq_self_eq_true, Bool.true_or, Bool.or_true, if_true]
  exact ⟨H.s491, e, h, k⟩
theorem w_loose (H : HasPr P) {x : PyData} (h : ddp x < d) (hB : B + dsz x < 1099511627776) (k : ∀ y, nrm y = nrm x → Q y 2 (B + dsz x)) : wrun P F (d + 1) 296 [.strm, .d x] B Q X := by
  rw [wrun]
  simp only [isPrim, beq_self_eq_true, Bool.true_or, Bool.or_true, if_true]
  exact ⟨H.s296, h, hB, k⟩
end
theorem wComp_inv {turn : List PyData → Nat → (Option (PyData × Nat) → Nat → Prop) → Prop} {Q : List PyData → Nat → Nat → Prop} (I : Nat → List PyData → Nat → Prop) : ∀ (its : List (List PyData)) (i : Nat) (acc : List PyData) (B : Nat), I i acc B → acc.length ≤ i → i + its.length ≤ 16777216 → (∀ j (hj : j < its.length) acc B (K : Option (PyData × Nat) → Nat → Prop), I (i + j) acc B → (∀ y B', I (i + j + 1) (acc ++ [y]) B' → K (some (y, 2)) B') → turn its[j] B K) → (∀ acc B, I (i + its.length) acc B → Q acc 2 B) → wComp turn its acc 2 B Q
  | [], i, acc, B, h0, hl, hl2, hs, he => by simpa [wComp] using he acc B h0
  | x :: r, i, acc, B, h0, hl, hl2, hs, he => by
    simp only [wComp]
    simp only [List.length_cons] at hl2
    refine hs 0 (by simp) acc B _ h0 fun y B' h1 => ⟨by omega, ?_⟩
    refine wComp_inv I r (i + 1) (acc ++ [y]) B' h1 (by simp; omega) (by omega) (fun j hj acc B K h2 k => ?_) fun acc B h2 => he acc B (by simpa [Nat.add_assoc, Nat.add_comm 1] using h2)
    exact hs (j + 1) (by simpa using hj) acc B K (by simpa [Nat.add_assoc, Nat.add_comm 1] using h2) fun y B' h3 => k y B' (by simpa [Nat.add_assoc, Nat.add_comm 1] using h3)
/-! ### sizes -/
mutual
theorem ddp_nrm : ∀ d : PyData, ddp (nrm d) = ddp d
  | .list xs => by simp only [nrm, ddp, ddpL_nrm xs]
  | .tuple xs => by simp only [nrm, ddp, ddpL_nrm xs]
  | .none => rfl
  | .bool _ => rfl
  | .int _ => rfl
  | .str _ => rfl
  | .dict _ => rfl
theorem ddpL_nrm : ∀ xs : List PyData, ddpL (nrmL xs) = ddpL xs
  | [] => rfl
  | x :: r => by simp only [nrmL, ddpL, ddp_nrm x, ddpL_nrm r]
end
mutual
theorem dsz_nrm : ∀ d : PyData, dsz (nrm d) = dsz d
  | .list xs => by simp only [nrm, dsz, dszL_nrm xs]
  | .tuple xs => by simp only [nrm, dsz, dszL_nrm xs]
  | .none => rfl
  | .bool _ => rfl
  | .int _ => rfl
  | .str _ => rfl
  | .dict _ => rfl
theorem dszL_nrm : ∀ xs : List PyData, dszL (nrmL xs) = dszL xs
  | [] => rfl
  | x :: r => by simp only [nrmL, dszL, dsz_nrm x, dszL_nrm r]
end
theorem ddpL_le {n : Nat} : ∀ {xs : List PyData}, (∀ x ∈ xs, ddp x ≤ n) → ddpL xs ≤ n
  | [], _ => by simp [ddpL]
  | y :: r, hx => by
    simp only [ddpL]
    exact Nat.max_le.2 ⟨hx y (by simp), ddpL_le fun x hm => hx x (by simp [hm])⟩
theorem dszL_le {n : Nat} : ∀ {xs : List PyData}, (∀ x ∈ xs, dsz x ≤ n) → dszL xs ≤ n * xs.length
  | [], _ => by simp [dszL]
  | y :: r, hx => by
    simp only [dszL, List.length_cons]
    have := hx y (by simp)
    have := dszL_le (xs := r) fun x hm => hx x (by simp [hm])
    rw [Nat.mul_succ]; omega
theorem kr_dp (r : Kr) : ddp r.d = 2 := by cases r with | mk n q => cases q <;> rfl
theorem kr_sz (r : Kr) : dsz r.d ≤ 6 := by cases r with | mk n q => cases q <;> simp [Kr.d, Rq.d, dsz, dszL]
theorem krs_dp (rs : List Kr) : ddp (.list (rs.map Kr.d)) ≤ 3 := by
  simp only [ddp]
  have := ddpL_le (n := 2) (xs := rs.map Kr.d) fun x hx => by
    obtain ⟨r, _, e⟩ := List.mem_map.1 hx
    subst e; exact Nat.le_of_eq (kr_dp r)
  omega
theorem krs_sz (rs : List Kr) : dsz (.list (rs.map Kr.d)) ≤ 6 * rs.length + 1 := by
  simp only [dsz]
  have := dszL_le (n := 6) (xs := rs.map Kr.d) fun x hx => by
    obtain ⟨r, _, e⟩ := List.mem_map.1 hx
    subst e; exact kr_sz r
  simp at this
  omega
theorem good_of {y : PyData} {rs : List Kr} (e : nrm y = nrm (.list (rs.map Kr.d))) (ho : ∀ r ∈ rs, r.okr) (hl : rs.length < 16777216) : Good y rs := by
  simp only [nrm, nrmL_map, List.map_map] at e
  obtain ⟨xs, h1, h2⟩ := nrmN e
  have : xs.length = rs.length := by simpa using congrArg List.length h2
  refine ⟨xs, by rcases h1 with h | h <;> subst h <;> rfl, by simpa [Function.comp_def] using h2, ho, by omega⟩
/-- _law_kee_request -/
def b223 : B := (.cons (.asg 1 (.call 109 (.cons (.var 0) (.cons (.int 4) .nil))))
  (.cons (.ret (.ite (.cmp .eq (.call 109 (.cons (.var 0) (.cons (.int 3) .nil))) (.int 0)) (.tup (.cons (.str "get") (.cons (.var 1) .nil))) (.tup (.cons (.str "add") (.cons (.var 1) (.cons (.call 431 (.cons (.var 0) (.cons (.lst (.cons (.int 0) (.cons (.int 1) (.cons (.int 7) (.cons (.int 255) (.cons (.int 128) (.cons (.int 99) .nil))))))) .nil))) .nil))))))
  .nil))
/-- _law_kee_records -/
def b222 : B := (.cons (.ret (.lc (.tup (.cons (.bin .add (.int 1) (.call 109 (.cons (.var 0) (.cons (.int 63) .nil)))) (.cons (.call 223 (.cons (.var 0) .nil)) .nil))) (.nm 2) (.rng1 (.call 109 (.cons (.var 0) (.cons (.bin .add (.var 1) (.int 1)) .nil)))) [2]))
  .nil)
section
variable {P : Prog} {F d B : Nat} {Q : WQ} {X : WX}
theorem w_keereq (H : HasPr P) (h : Has P 223 2 1 b223) (hB : B + 3 < 1099511627776) (k : ∀ (r : Rq) B', r.okq → B' ≤ B + 3 → Q r.d 2 B') : wrun P F (d + 4) 223 [.strm] B Q X := by
  rw [wrun]
  simp [isPrim, hb h, b223, wB, wS, wE, wA, strmAt, startV]
  refine w_draw H (by decide) (by decide) (by omega) fun v v0 v1 => ?_
  simp [esc, isAp, wV, wV.wVL, wE, wA, wL, strmAt]
  refine w_draw H (by decide) (by decide) (by omega) fun w w0 w1 => ?_
  simp [cmpD, truthD]
  split
  · simp [lvT]
    have := k (.get v.toNat) (B + 1 + 1) ⟨by simp [Rq.slot]; omega, by simp [Rq.n]⟩ (by omega)
    have e : ((v.toNat : Nat) : Int) = v := by omega
    simpa [Rq.d, e] using this
  · refine w_pick (d := d + 1) H (xs := [.int 0, .int 1, .int 7, .int 255, .int 128, .int 99]) rfl (by simp) (by simp) (by omega) fun y hy => ?_
    have hy' : ∃ n : Nat, n < 256 ∧ y = .int n := by
      simp at hy
      rcases hy with e | e | e | e | e | e
      · exact ⟨0, by decide, e⟩
      · exact ⟨1, by decide, e⟩
      · exact ⟨7, by decide, e⟩
      · exact ⟨255, by decide, e⟩
      · exact ⟨128, by decide, e⟩
      · exact ⟨99, by decide, e⟩
    obtain ⟨n, hn, e⟩ := hy'
    subst e
    simp [lvT]
    have := k (.add v.toNat n) (B + 1 + 1 + 1) ⟨by simp [Rq.slot]; omega, by simp [Rq.n]; omega⟩ (by omega)
    have e : ((v.toNat : Nat) : Int) = v := by omega
    simpa [Rq.d, e] using this
theorem w_keerecs (H : HasPr P) (h : Has P 223 2 1 b223) (h2 : Has P 222 3 2 b222) {many : Nat} (hm : many < 100) (hB : B + 1000 < 1099511627776) (k : ∀ (rs : List Kr) B', (∀ r ∈ rs, r.okr) → rs.length ≤ many → B' ≤ B + 1000 → Q (.list (rs.map Kr.d)) 2 B') : wrun P F (d + 5) 222 [.strm, .d (.int many)] B Q X := by
  rw [wrun]
  simp [isPrim, hb h2, b222, wB, wS, isAp, wV, wE, wI, wA, strmAt, startV, opD]
  refine w_draw H (by omega) (by omega) (by omega) fun v v0 v1 => ?_
  have hv : rngOk v = true := by
    unfold rngOk
    rw [decide_eq_true (show -1073741824 < v by omega), decide_eq_true (show v < 1073741824 by omega)]; rfl
  simp [hv]
  refine wComp_inv (fun i acc B' => ∃ rs : List Kr, acc = rs.map Kr.d ∧ rs.length = i ∧ (∀ r ∈ rs, r.okr) ∧ B' ≤ B + 1 + 4 * i) ((rngD 0 v.toNat).map fun x => [x]) 0 [] (B + 1) ⟨[], rfl, rfl, by simp, by omega⟩ (by simp) (by simp [rngD_map]; omega) (fun j hj acc B' K h0 k => ?_) fun acc B' h0 => ?_
  · obtain ⟨rs, e1, e2, e3, e4⟩ := h0
    have hj' : j < v.toNat := by simpa [rngD_map] using hj
    simp only [List.getElem_map, Nat.zero_add] at *
    simp [wipeV, strmAt, wA, wL, wE]
    refine w_draw H (by decide) (by decide) (by omega) fun w w0 w1 => ?_
    simp [opD, wL, wE, wA, strmAt]
    refine w_keereq H h (by omega) fun r B2 hr hB2 => ?_
    have := k (Kr.d ⟨1 + w, r⟩) B2 ⟨rs ++ [⟨1 + w, r⟩], by simp [e1], by simp [e2], fun x hx => ?_, by omega⟩
    · simpa [Kr.d, lvT] using this
    · rcases List.mem_append.1 hx with z | z
      · exact e3 x z
      · simp at z; subst z; exact ⟨by show 0 < 1 + w; omega, by show 1 + w < 64; omega, hr⟩
  · obtain ⟨rs, e1, e2, e3, e4⟩ := h0
    have el : (List.map (fun x => [x]) (rngD 0 v.toNat)).length = v.toNat := by simp [rngD_map]
    rw [el] at e2 e4
    subst e1
    simp [lvL]
    exact ⟨by omega, k rs B' e3 (by omega) (by omega)⟩
end
end AH

set_option Elab.async false
set_option linter.all false
set_option maxRecDepth 100000
set_option maxHeartbeats 2000000
/-! KV6: k33's checks. -/
namespace AH
open PySem L2
/-- _law_each_once -/
def b111 : B := (.cons (.asg 1 (.lst .nil))
  (.cons (.forS (.nm 2) (.seq (.var 0)) (.cons (.ite (.cmp .notin (.var 2) (.var 1)) (.cons (.ex (.meth .append (.var 1) (.cons (.var 2) .nil)))
  .nil) .nil)
  .nil))
  (.cons (.ret (.var 1))
  .nil)))
/-- _law_done_right -/
def b108 : B := (.cons (.asg 2 (.call 296 (.cons (.var 0) (.cons (.lc (.call 296 (.cons (.var 0) (.cons (.var 13) .nil))) (.nm 13) (.seq (.var 1)) [13]) .nil))))
  (.cons (.asg 3 (.call 101 (.cons (.var 2) .nil)))
  (.cons (.asgT (.cons (.nm 4) (.cons (.nm 5) .nil)) (.call 209 (.cons (.lst (.cons (.int 0) (.cons (.int 0) (.cons (.int 0) (.cons (.int 0) .nil))))) (.cons (.var 1) .nil))))
  (.cons (.asg 6 (.lst (.cons (.call 1168 (.cons (.var 2) .nil)) (.cons (.call 679 (.cons (.var 2) .nil)) (.cons (.callk 1168 (.cons (.call 101 (.cons (.var 1) .nil)) .nil) [0]) .nil)))))
  (.cons (.ex (.meth .append (.var 6) (.cons (.callk 679 (.cons (.call 101 (.cons (.var 1) .nil)) .nil) [0]) .nil)))
  (.cons (.asg 7 (.lc (.var 12) (.tp (.cons (.nm 11) (.cons (.nm 12) .nil))) (.seq (.var 5)) [11, 12]))
  (.cons (.ite (.or (.not (.call 491 (.cons (.bin .add (.var 6) (.lst (.cons (.var 2) .nil))) (.cons (.lst (.cons (.var 4) (.cons (.var 7) (.cons (.var 4) (.cons (.var 7) (.cons (.var 3) .nil)))))) .nil)))) (.not (.call 28 (.cons (.var 6) .nil)))) (.cons (.ret (.bl false))
  .nil) .nil)
  (.cons (.forS (.nm 8) (.seq (.call 111 (.cons (.lst (.cons (.int 0) (.cons (.int 1) (.cons (.blt .len (.cons (.var 1) .nil)) (.cons (.bin .add (.blt .len (.cons (.var 1) .nil)) (.int 3)) (.cons (.call 109 (.cons (.var 0) (.cons (.int 9) .nil))) .nil)))))) .nil))) (.cons (.asg 9 (.sl (.var 5) (.blt .max2 (.cons (.int 0) (.cons (.bin .sub (.blt .len (.cons (.var 5) .nil)) (.var 8)) .nil))) .non))
  (.cons (.asg 10 (.lst (.cons (.call 1173 (.cons (.var 2) (.cons (.var 8) .nil))) (.cons (.callk 1173 (.cons (.var 8) (.cons (.call 101 (.cons (.var 1) .nil)) .nil)) [1, 0]) .nil))))
  (.cons (.ite (.or (.not (.call 491 (.cons (.bin .add (.var 10) (.lst (.cons (.var 2) .nil))) (.cons (.lst (.cons (.var 9) (.cons (.var 9) (.cons (.var 3) .nil)))) .nil)))) (.not (.call 28 (.cons (.var 10) .nil)))) (.cons (.ret (.bl false))
  .nil) .nil)
  .nil))))
  (.cons (.ret (.bl true))
  .nil)))))))))
@[simp] theorem gd_ints (S : List Int) : gd 40 (.list (S.map .int)) = true := by
  show (S.map PyData.int).all (gd 39) = true
  rw [List.all_map]
  exact List.all_eq_true.2 fun _ _ => rfl
theorem ints_dp (S : List Int) : ddp (.list (S.map .int)) ≤ 1 := by
  simp only [ddp]
  have := ddpL_le (n := 0) (xs := S.map PyData.int) fun x hx => by
    obtain ⟨r, _, e⟩ := List.mem_map.1 hx
    subst e; exact Nat.le_refl _
  omega
theorem ints_sz (S : List Int) : dsz (.list (S.map .int)) ≤ S.length + 1 := by
  simp only [dsz]
  have := dszL_le (n := 1) (xs := S.map PyData.int) fun x hx => by
    obtain ⟨r, _, e⟩ := List.mem_map.1 hx
    subst e; exact Nat.le_refl _
  simp at this
  omega
theorem nolL_ints (S : List Int) : nolL (S.map PyData.int) = true := by
  induction S with
  | nil => rfl
  | cons x r ih => simp [nolL, nol, ih]
section
variable {P : Prog} {F d B : Nat} {Q : WQ} {X : WX}
theorem w_once (h : Has P 111 3 1 b111) {zs : List Int} (hl : zs.length < 1000) (k : ∀ (ws : List Int) u, (∀ w ∈ ws, w ∈ zs) → ws.length ≤ zs.length → Q (.list (ws.map .int)) u B) : wrun P F (d + 1) 111 [.d (.list (zs.map .int))] B Q X := by
  rw [wrun]
  simp [isPrim, hb h, b111, wB, wS, wE, wL, wI, startV, esc, lvL, seqD, vsI, vsE, clr, clr1]
  rw [show List.map ((fun x => [x]) ∘ PyData.int) zs = zs.map (fun z => [PyData.int z]) from rfl]
  refine wFor_inv (fun i σ B' => B' = B ∧ ∃ (ws : List Int) (a : VS), σ = [.v (.list (zs.map .int)) 0, .v (.list (ws.map .int)) 2, a] ∧ (∀ w ∈ ws, w ∈ zs) ∧ ws.length ≤ i) (zs.map (fun z => [PyData.int z])) 0 _ _ ⟨rfl, [], _, rfl, by simp, by simp⟩ (fun j hj σ B' K h0 k => ?_) fun σ B' h0 => ?_
  · obtain ⟨e, ws, a, e2, e3, e4⟩ := h0
    subst e
    subst e2
    have hj' : j < zs.length := by simpa using hj
    simp only [List.getElem_map, Nat.zero_add] at *
    simp [wC, wE, cmpD, memD, truthD]
    have g1 : gd 40 (PyData.int zs[j]) = true := rfl
    simp [g1]
    have skip := k [.v (.list (zs.map .int)) 0, .v (.list (ws.map .int)) 2, .v (.int zs[j]) 0] B' ⟨rfl, ws, _, rfl, e3, by omega⟩
    have e5 : ∀ w ∈ ws ++ [zs[j]], w ∈ zs := by
      intro w hw
      rcases List.mem_append.1 hw with z | z
      · exact e3 w z
      · simp at z; rw [z]; exact List.getElem_mem _
    have app := k [.v (.list (zs.map .int)) 0, .v (.list ((ws ++ [zs[j]]).map .int)) 2, .v (.int zs[j]) 0] B' ⟨rfl, ws ++ [zs[j]], _, rfl, e5, by simp; omega⟩
    split
    · simp [wS, ownL, wE, esc, lvM, wB]
      exact ⟨by omega, by simpa using app⟩
    · try simp [wB]
      exact skip
  · obtain ⟨e, ws, a, e2, e3, e4⟩ := h0
    subst e
    subst e2
    simp only [List.length_map, Nat.zero_add] at e4
    simp [isAp, wV]
    exact k ws _ e3 e4
theorem last_mem {ps : List (Int × Int)} {m : Int} {x : PyData} (h : x ∈ lastD ps m) : ∃ p, x = pairD p := by
  obtain ⟨p, _, e⟩ := List.mem_map.1 (cutA_mem h)
  exact ⟨p, e.symm⟩
theorem last_dp (ps : List (Int × Int)) (m : Int) : ddp (.list (lastD ps m)) ≤ 2 := by
  simp only [ddp]
  have := ddpL_le (n := 1) (xs := lastD ps m) fun x hx => by
    obtain ⟨p, e⟩ := last_mem hx
    subst e; exact Nat.le_refl _
  omega
theorem last_sz (ps : List (Int × Int)) (m : Int) : dsz (.list (lastD ps m)) ≤ 3 * ps.length + 1 := by
  simp only [dsz]
  have := dszL_le (n := 3) (xs := lastD ps m) fun x hx => by
    obtain ⟨p, e⟩ := last_mem hx
    subst e; exact Nat.le_refl _
  have h2 : (lastD ps m).length ≤ ps.length := by
    unfold lastD
    have := cutA_len (xs := ps.map pairD) (lo := some (if ((ps.length : Int) - m) > 0 then (ps.length : Int) - m else 0)) (hi := none)
    simpa using this
  have h3 : 3 * (lastD ps m).length ≤ 3 * ps.length := Nat.mul_le_mul_left 3 h2
  omega
theorem last_nol (ps : List (Int × Int)) (m : Int) : nol (.list (lastD ps m)) = true := by
  simp only [nol]
  refine nolL_iff.2 fun x hx => ?_
  obtain ⟨p, e⟩ := last_mem hx
  subst e
  simp [pairD, nol, nolL]
structure HasK6 (P : Prog) : Prop extends HasK4 P, HasPr P where
  h111 : Has P 111 3 1 b111
  h108 : Has P 108 14 2 b108
  h209 : Has P 209 6 2 (allW 212)
  h212 : Has P 212 3 2 b212
  h222 : Has P 222 3 2 b222
  h223 : Has P 223 2 1 b223
theorem good_self {rs : List Kr} (ho : ∀ r ∈ rs, r.okr) (hl : rs.length < 16777216) : Good (.list (rs.map Kr.d)) rs := good_of rfl ho hl
theorem w_doneright (H : HasK6 P) {rs : List Kr} (ho : ∀ r ∈ rs, r.okr) (hl : rs.length < 100) (hB : B + 10000 < 1099511627776) (k : ∀ B', B' ≤ B + 2000 → Q (.bool true) 2 B') : wrun P F (d + 12) 108 [.strm, .d (.list (rs.map Kr.d))] B Q X := by
  have hl' : rs.length < 16777216 := by omega
  have hsz := krs_sz rs
  have hdp := krs_dp rs
  rw [wrun]
  simp [isPrim, hb H.h108, b108, wB, wS, wE, wI, wA, strmAt, startV, seqD]
  rw [show List.map ((fun x => [x]) ∘ Kr.d) rs = rs.map (fun r => [r.d]) from rfl]
  refine wComp_inv (fun i acc B' => acc.map nrm = (rs.take i).map (fun r => nrm r.d) ∧ B' ≤ B + 6 * i) (rs.map (fun r => [r.d])) 0 [] B ⟨by simp, by omega⟩ (by simp) (by simp; omega) (fun j hj acc B' K h0 k => ?_) fun acc B' h0 => ?_
  · obtain ⟨e1, e2⟩ := h0
    have hj' : j < rs.length := by simpa using hj
    simp only [List.getElem_map, Nat.zero_add] at *
    simp [wipeV, strmAt, wA, wE]
    have hs := kr_sz rs[j]
    refine w_loose H.toHasPr (by rw [kr_dp]; omega) (by omega) fun y hy => ?_
    refine k y _ ⟨?_, by omega⟩
    rw [List.map_append, e1, take_step hj', List.map_append]
    simp [hy]
  · obtain ⟨e1, e2⟩ := h0
    have el : (rs.map (fun r => [r.d])).length = rs.length := by simp
    rw [el, Nat.zero_add, List.take_of_length_le (Nat.le_refl _)] at e1
    rw [el, Nat.zero_add] at e2
    have hal : acc.length = rs.length := by simpa using congrArg List.length e1
    have en : nrm (.list acc) = nrm (.list (rs.map Kr.d)) := by simp [nrm, nrmL_map, e1, Function.comp_def]
    have sz1 : dsz (.list acc) ≤ 6 * rs.length + 1 := by rw [← dsz_nrm, en, dsz_nrm]; exact hsz
    have dp1 : ddp (.list acc) ≤ 3 := by rw [← ddp_nrm, en, ddp_nrm]; exact hdp
    refine ⟨by omega, ?_⟩
    refine w_loose H.toHasPr (by omega) (by omega) fun y hy => ?_
    have hy2 : nrm y = nrm (.list (rs.map Kr.d)) := by rw [hy, en]
    have gy := good_of hy2 ho hl'
    have dpy : ddp y ≤ 3 := by rw [← ddp_nrm, hy2, ddp_nrm]; exact hdp
    generalize hB2 : B' + dsz (.list acc) = B2
    have b2 : B2 ≤ B + 1201 := by omega
    simp [esc, wE, wA, strmAt]
    refine w_copied H.toHasPr (by omega) ?_
    simp [esc, wE, wA, wL, strmAt, lvL]
    refine w_all (f := 212) (d := d + 10) rfl H.h209 (fun h1 h2 k => w_keedone (d := d + 9) H.h212 h1 h2 k) ho hl' ?_
    simp [esc, wE, wA, wL, strmAt, permVA]
    refine w_sums (d := d + 4) H.toHasK4 gy ?_
    refine w_answers (d := d + 4) H.toHasK4 gy ?_
    simp [wA, strmAt, wE]
    refine w_copied H.toHasPr (by omega) ?_
    try simp [permVA]
    refine w_sums (d := d + 4) H.toHasK4 (good_self ho hl') ?_
    simp [lvL, ownL, wE, wA, strmAt]
    refine w_copied H.toHasPr (by omega) ?_
    try simp [permVA]
    refine w_answers (d := d + 4) H.toHasK4 (good_self ho hl') ?_
    simp [esc, ownL, lvM, wE, wI, seqD]
    have hm := kst_many rs
    refine wComp_list _ [] ((kst rs).1.map fun p => .int p.2) (by simp) (fun i h1 h2 K k => ?_) (by simp; omega) ?_
    · have h1' : i < (kst rs).1.length := by simpa using h1
      simp only [List.getElem_map, Function.comp_def] at k ⊢
      simp [wipeV, pairD]
      exact k
    simp [lvL, esc]
    refine ⟨by omega, ?_⟩
    have q3 : ddp (.list ((kst rs).2.map .int)) ≤ 1 := ints_dp _
    have q4 : ddp (.list ((kst rs).1.map fun p => PyData.int p.2)) ≤ 1 := by
      have := ints_dp ((kst rs).1.map Prod.snd)
      simpa [Function.comp_def] using this
    have z3 : dsz (.list ((kst rs).2.map .int)) ≤ 5 := by have := ints_sz (kst rs).2; rw [kst_four] at this; exact this
    have z4 : dsz (.list ((kst rs).1.map fun p => PyData.int p.2)) ≤ rs.length + 1 := by
      have := ints_sz ((kst rs).1.map Prod.snd)
      simpa [Function.comp_def, hm] using this
    have n3 : nol (.list ((kst rs).2.map .int)) = true := by simp only [nol]; exact nolL_ints _
    have n4 : nol (.list ((kst rs).1.map fun p => PyData.int p.2)) = true := by
      simp only [nol]
      have := nolL_ints ((kst rs).1.map Prod.snd)
      simpa [Function.comp_def] using this
    simp [wC, wE, wA, wL, strmAt, opD, lvL]
    refine w_same H.toHasPr rfl ?_ ?_
    · simp only [ddp, ddpL] at *; omega
    simp [truthD, wV]
    refine ⟨⟨⟨?_, ?_, ?_⟩, H.s28⟩, ?_⟩
    · simp only [dsz, dszL] at *; omega
    · simp only [nolL, nol] at *; simp [n3, n4]
    · simp only [ddp, ddpL] at *; omega
    simp [kill, wE, wL, bltD, opD]
    refine w_draw H.toHasPr (by decide) (by decide) (by omega) fun v v0 v1 => ?_
    refine w_once (d := d + 10) (zs := [0, 1, (rs.length : Int), (rs.length : Int) + 3, v]) H.h111 (by simp) fun ws u hw hlw => ?_
    have hpos : ∀ w ∈ ws, 0 ≤ w := by
      intro w hw'
      have := hw w hw'
      simp at this
      omega
    simp [vsI, vsE, vsL, clr, clr1]
    rw [show List.map ((fun x => [x]) ∘ PyData.int) ws = ws.map (fun z => [PyData.int z]) from rfl]
    refine wFor_inv (fun i σ B' => B' = B2 + 1 ∧ ∃ (a b c : VS), σ = [.strm, .v (.list (rs.map Kr.d)) 0, .v y 2, .v y 2, .v (.list ((kst rs).2.map .int)) 2, .v (.list ((kst rs).1.map pairD)) 2, .no, .v (.list ((kst rs).1.map fun p => .int p.2)) 2, a, b, c, .no, .no, .no]) (ws.map (fun z => [PyData.int z])) 0 _ _ ⟨rfl, _, _, _, rfl⟩ (fun j hj σ B' K h0 k => ?_) fun σ B' h0 => ?_
    · obtain ⟨e, a, b, c, e2⟩ := h0
      subst e
      subst e2
      have hj' : j < ws.length := by simpa using hj
      have hw0 := hpos _ (List.getElem_mem hj')
      simp only [List.getElem_map, Nat.zero_add] at *
      have elast : ∀ z w, nolsL (cutA ((kst rs).1.map pairD) z w) = true := fun z w => nolsL_cut (nolsL_pair _)
      simp [wE, wL, bltD, opD, optD, slD, lvK, elast, esc, wA, strmAt]
      refine w_table (d := d + 4) H.toHasK4 gy hw0 ?_
      simp [wA, wE, strmAt]
      refine w_copied H.toHasPr (by omega) ?_
      try simp [permVA]
      refine w_table (d := d + 4) H.toHasK4 (good_self ho hl') hw0 ?_
      simp [lvL, esc, wC, wE, wA, wL, strmAt, opD]
      have el : cutA ((kst rs).1.map pairD) (some (if ws[j] < ((kst rs).1.length : Int) then ((kst rs).1.length : Int) - ws[j] else 0)) none = lastD (kst rs).1 ws[j] := by simp [lastD]
      rw [el] at *
      have t1 := last_dp (kst rs).1 ws[j]
      have t2 := last_sz (kst rs).1 ws[j]
      have t3 := last_nol (kst rs).1 ws[j]
      rw [hm] at t2
      refine w_same H.toHasPr rfl ?_ ?_
      · simp only [ddp, ddpL] at *; omega
      simp only [truthD, optQ_some, Bool.not_true, if_true]
      refine ⟨⟨⟨?_, ?_, ?_⟩, H.s28⟩, ?_⟩
      · simp only [dsz, dszL] at *; omega
      · simp only [nolL, nol] at *; simp [t3]
      · simp only [ddp, ddpL] at *; omega
      try simp [kill, wB]
      exact k _ _ ⟨rfl, _, _, _, rfl⟩
    · obtain ⟨e, a, b, c, e2⟩ := h0
      subst e
      subst e2
      try simp [isAp, wV, wE]
      exact k _ (by omega)
end
end AH

set_option Elab.async false
set_option linter.all false
set_option maxRecDepth 100000
set_option maxHeartbeats 2000000
/-! KV7: k33's law of exchanged records. -/
namespace AH
open PySem L2
def ans (rs : List Kr) : List Int := (kst rs).1.map Prod.snd
theorem kst_split (l : List (Int × Int)) (S : List Int) : ∀ rs : List Kr, rs.foldl kstep (l, S) = (l ++ (rs.foldl kstep ([], S)).1, (rs.foldl kstep ([], S)).2) := by
  have : ∀ (rs : List Kr) (l m : List (Int × Int)) (S : List Int), rs.foldl kstep (l ++ m, S) = (l ++ (rs.foldl kstep (m, S)).1, (rs.foldl kstep (m, S)).2) := by
    intro rs
    induction rs with
    | nil => intro l m S; rfl
    | cons r rs ih =>
      intro l m S
      simp only [List.foldl_cons, kstep]
      rw [List.append_assoc, ih]
  intro rs
  have := this rs l [] S
  simpa using this
theorem upd_get_ne {S : List Int} {r : Rq} {k : Nat} (h : r.slot ≠ k) : (upd S r).getD k 0 = S.getD k 0 := by
  unfold upd
  split
  · rw [List.getD_eq_getElem?_getD, List.getElem?_set_ne h, ← List.getD_eq_getElem?_getD]
  · rfl
theorem upd_comm {S : List Int} {a b : Rq} (h : a.slot ≠ b.slot) : upd (upd S a) b = upd (upd S b) a := by
  by_cases ha : a.isA = true
  · by_cases hb : b.isA = true
    · have e1 : (upd S a).getD b.slot 0 = S.getD b.slot 0 := upd_get_ne h
      have e2 : (upd S b).getD a.slot 0 = S.getD a.slot 0 := upd_get_ne (Ne.symm h)
      unfold upd at *
      rw [if_pos ha, if_pos hb] at *
      rw [if_pos ha, if_pos hb] at *
      rw [e1, e2]
      exact List.set_comm _ _ h
    · unfold upd
      rw [if_neg hb, if_neg hb]
  · unfold upd
    rw [if_neg ha, if_neg ha]
theorem kst_exch {pre post : List Kr} {a b : Kr} (h : a.rq.slot ≠ b.rq.slot) : (kst (pre ++ b :: a :: post)).2 = (kst (pre ++ a :: b :: post)).2 ∧ ∃ (A C : List Int) (x y : Int), A.length = pre.length ∧ ans (pre ++ a :: b :: post) = A ++ x :: y :: C ∧ ans (pre ++ b :: a :: post) = A ++ y :: x :: C := by
  have e : ∀ u v : Kr, kst (pre ++ u :: v :: post) = post.foldl kstep (kstep (kstep (kst pre) u) v) := by intro u v; simp [kst]
  have h1 : (upd (upd (kst pre).2 b.rq) a.rq).getD a.rq.slot 0 = (upd (kst pre).2 a.rq).getD a.rq.slot 0 := by rw [← upd_comm h, upd_get_ne (Ne.symm h)]
  have h2 : (upd (upd (kst pre).2 a.rq) b.rq).getD b.rq.slot 0 = (upd (kst pre).2 b.rq).getD b.rq.slot 0 := by rw [upd_comm h, upd_get_ne h]
  have e1 := e a b
  have e2 := e b a
  simp only [kstep] at e1 e2
  rw [kst_split] at e1 e2
  rw [h2] at e1
  rw [h1, ← upd_comm h] at e2
  refine ⟨by rw [e1, e2], (kst pre).1.map Prod.snd, (post.foldl kstep ([], upd (upd (kst pre).2 a.rq) b.rq)).1.map Prod.snd, (upd (kst pre).2 a.rq).getD a.rq.slot 0, (upd (kst pre).2 b.rq).getD b.rq.slot 0, by simp [kst_many], ?_, ?_⟩
  · simp [ans, e1]
  · simp [ans, e2]
theorem cutA_take {α : Type} {xs : List α} {k : Nat} : cutA xs none (some (k : Int)) = xs.take k := by
  unfold cutA
  rw [HT.sIx_none, HT.sIx_nat]
  simp only [List.drop_zero, Nat.sub_zero]
  by_cases hk : k ≤ xs.length
  · rw [Nat.min_eq_left hk]
  · rw [Nat.min_eq_right (by omega), List.take_of_length_le (Nat.le_refl _), List.take_of_length_le (by omega)]
theorem cutA_drop {α : Type} {xs : List α} {k : Nat} : cutA xs (some (k : Int)) none = xs.drop k := by
  unfold cutA
  rw [HT.sIx_none, HT.sIx_nat]
  by_cases hk : k ≤ xs.length
  · rw [Nat.min_eq_left hk, List.take_of_length_le (by simp)]
  · rw [Nat.min_eq_right (by omega), List.drop_eq_nil_of_le (by omega), List.drop_eq_nil_of_le (by omega)]
    simp
theorem rngD_get {n j : Nat} {h : j < (rngD 0 n).length} : (rngD 0 n)[j] = .int j := by
  simp [rngD_map]
@[simp] theorem nols_kr (r : Kr) : nols r.d = true := by cases r with | mk n q => cases q <;> rfl
@[simp] theorem lv0_kr (r : Kr) : lv0 r.d = 2 := by unfold lv0; simp
@[simp] theorem lsub_kr {u : Nat} (r : Kr) : lsub u r.d = 2 := by unfold lsub; simp
@[simp] theorem nolsL_kr (rs : List Kr) : nolsL (rs.map Kr.d) = true := by
  induction rs with
  | nil => rfl
  | cons x r ih => simp [nolsL, ih]
theorem eqdAll_ints : ∀ S : List Int, eqdAll (S.map .int) (S.map .int) = true
  | [] => rfl
  | x :: r => by simp [eqdAll, eqd, eqdAll_ints r]
@[simp] theorem eqW_ints (S : List Int) : eqW (.list (S.map .int)) (.list (S.map .int)) = some true := by
  unfold eqW
  rw [gd_ints]
  simp [eqd, eqdAll_ints]
theorem atI_at {α : Type} {xs : List α} {k : Nat} (h : k < xs.length) : atI xs (k : Int) = some xs[k] := by
  unfold atI
  rw [ixN_nat h]
  simp [h]
/-- _law_exchanged_right -/
def b114 : B := (.cons (.forS (.nm 1) (.rng1 (.bin .sub (.blt .len (.cons (.var 0) .nil)) (.int 1))) (.cons (.asgP [2, 3] (.cons (.sub (.var 0) (.var 1)) (.cons (.sub (.var 0) (.bin .add (.var 1) (.int 1))) .nil)))
  (.cons (.ite (.cmp .ne (.sub (.sub (.var 2) (.int 1)) (.int 1)) (.sub (.sub (.var 3) (.int 1)) (.int 1))) (.cons (.asg 4 (.bin .add (.bin .add (.sl (.var 0) .non (.var 1)) (.lst (.cons (.var 3) (.cons (.var 2) .nil)))) (.sl (.var 0) (.bin .add (.var 1) (.int 2)) .non)))
  (.cons (.asg 5 (.lst (.cons (.call 679 (.cons (.call 101 (.cons (.var 0) .nil)) .nil)) (.cons (.call 679 (.cons (.call 101 (.cons (.var 4) .nil)) .nil)) .nil))))
  (.cons (.asg 6 (.bin .add (.bin .add (.sl (.sub (.var 5) (.int 1)) .non (.var 1)) (.lst (.cons (.sub (.sub (.var 5) (.int 1)) (.bin .add (.var 1) (.int 1))) (.cons (.sub (.sub (.var 5) (.int 1)) (.var 1)) .nil)))) (.sl (.sub (.var 5) (.int 1)) (.bin .add (.var 1) (.int 2)) .non)))
  (.cons (.ite (.or (.cmp .ne (.sub (.var 5) (.int 0)) (.var 6)) (.cmp .ne (.call 1168 (.cons (.call 101 (.cons (.var 4) .nil)) .nil)) (.call 1168 (.cons (.call 101 (.cons (.var 0) .nil)) .nil)))) (.cons (.ret (.bl false))
  .nil) .nil)
  .nil)))) .nil)
  .nil)))
  (.cons (.ret (.bl true))
  .nil))
section
variable {P : Prog} {F d B : Nat} {Q : WQ} {X : WX}
theorem w_answers' (H : HasK4 P) {x : PyData} {rs : List Kr} (h : Good x rs) (k : Q (.list ((ans rs).map .int)) 2 B) : wrun P F (d + 7) 679 [.d x] B Q X :=
  w_answers H h (by simpa [ans, Function.comp_def] using k)
theorem ix_kr1 (r : Kr) : ixD r.d (.int 1) = some r.rq.d := by simp [Kr.d, ixD]
theorem ix_rq1 (r : Rq) : ixD r.d (.int 1) = some (.int r.slot) := by cases r <;> simp [Rq.d, ixD, Rq.slot]
theorem op_ii {i j : Int} : opD .add (.int i) (.int j) = some (.int (i + j), 2) := rfl
theorem op_ll {xs ys : List PyData} (h : xs.length + ys.length < 16777216) : opD .add (.list xs) (.list ys) = some (.list (xs ++ ys), lvK (xs ++ ys)) := by
  simp [opD, h]
theorem op_si {i j : Int} : opD .sub (.int i) (.int j) = some (.int (i - j), 2) := rfl
theorem ix_l {xs : List PyData} {i : Int} : ixD (.list xs) (.int i) = atI xs i := rfl
theorem w_exch (H : HasK6 P) (h : Has P 114 7 1 b114) {rs : List Kr} (ho : ∀ r ∈ rs, r.okr) (hl : rs.length < 100) (k : Q (.bool true) 2 B) : wrun P F (d + 12) 114 [.d (.list (rs.map Kr.d))] B Q X := by
  have hdp := krs_dp rs
  rw [wrun]
  simp [isPrim, hb h, b114, wB, wS, wE, wL, wI, startV, bltD, op_si, vsI, vsE, vsL, clr, clr1]
  have hr : rngOk ((rs.length : Int) - 1) = true := by
    unfold rngOk
    rw [decide_eq_true (show -1073741824 < ((rs.length : Int) - 1) by omega), decide_eq_true (show ((rs.length : Int) - 1) < 1073741824 by omega)]; rfl
  refine ⟨hr, ?_⟩
  refine wFor_inv (fun i σ B' => B' = B ∧ ∃ (a b c e f g : VS), σ = [.v (.list (rs.map Kr.d)) 0, a, b, c, e, f, g]) _ 0 _ _ ⟨rfl, _, _, _, _, _, _, rfl⟩ (fun j hj σ B' K h0 k => ?_) fun σ B' h0 => ?_
  · obtain ⟨e, a, b, c, e1, f, g, e2⟩ := h0
    subst e
    subst e2
    have hj1 : j + 1 < rs.length := by simp [rngD_map] at hj; omega
    simp only [List.getElem_map, rngD_get]
    have ha : atI (rs.map Kr.d) (j : Int) = some (rs[j]'(by omega)).d := by rw [atI_at (by simp; omega)]; simp
    have hb : atI (rs.map Kr.d) ((j : Int) + 1) = some (rs[j + 1]).d := by
      have : ((j : Int) + 1) = ((j + 1 : Nat) : Int) := by omega
      rw [this, atI_at (by simpa using hj1)]; simp
    simp [wU, wE, ix_l, ha, hb, op_ii, esc, setV, wC, cmpD, ix_kr1, ix_rq1, truthD]
    split
    · try simp [wB]
      exact k _ _ ⟨rfl, _, _, _, _, _, _, rfl⟩
    · next hne =>
      have hne' : (rs[j]'(by omega)).rq.slot ≠ (rs[j + 1]).rq.slot := by omega
      have esp : rs = rs.take j ++ rs[j]'(by omega) :: rs[j + 1] :: rs.drop (j + 2) := by
        have h1 : rs.drop j = rs[j]'(by omega) :: rs.drop (j + 1) := List.drop_eq_getElem_cons (by omega)
        have h2 : rs.drop (j + 1) = rs[j + 1] :: rs.drop (j + 2) := List.drop_eq_getElem_cons hj1
        rw [← h2, ← h1, List.take_append_drop]
      obtain ⟨es, A, C, x, y, hA, ea, eb⟩ := kst_exch (pre := rs.take j) (post := rs.drop (j + 2)) hne'
      rw [← esp] at es ea
      have hAj : A.length = j := by rw [hA]; simp; omega
      have hoth : ∀ r ∈ rs.take j ++ rs[j + 1] :: rs[j]'(by omega) :: rs.drop (j + 2), r.okr := by
        intro r hr
        simp at hr
        rcases hr with z | z | z | z
        · exact ho r (List.mem_of_mem_take z)
        · subst z; exact ho _ (List.getElem_mem _)
        · subst z; exact ho _ (List.getElem_mem _)
        · exact ho r (List.mem_of_mem_drop z)
      generalize hot : rs.take j ++ rs[j + 1] :: rs[j]'(by omega) :: rs.drop (j + 2) = other at es eb hoth
      have eol : other.length = rs.length := by rw [← hot]; simp; omega
      have edj : ((j : Int) + 2) = ((j + 2 : Nat) : Int) := by omega
      have eot : ((rs.map Kr.d).take j ++ [(rs[j + 1]).d, (rs[j]'(by omega)).d]) ++ (rs.map Kr.d).drop (j + 2) = other.map Kr.d := by
        have := congrArg (List.map Kr.d) hot
        simpa using this
      have hdo := krs_dp other
      have go := good_self hoth (by omega)
      have gs := good_self ho (by omega)
      have enl : ∀ ys : List PyData, ys = other.map Kr.d → nolsL ys = true := fun ys e => by rw [e]; exact nolsL_kr _
      simp only [optD, optQ_some, slD, cutA_take, wL, wE]
      rw [op_ll (by simp; omega)]
      simp only [optQ_some, edj, cutA_drop]
      rw [op_ll (by simp; omega), eot]
      simp [lvK, esc, wE, wL, wA, strmAt]
      refine w_copied H.toHasPr (by omega) ?_
      refine w_answers' (d := d + 4) H.toHasK4 gs ?_
      simp [wA, strmAt, wE]
      refine w_copied H.toHasPr (by omega) ?_
      refine w_answers' (d := d + 4) H.toHasK4 go ?_
      simp [lvL, esc, wE, wL, ix_l]
      have hjl : ((j : Int) + 1) = ((j + 1 : Nat) : Int) := by omega
      have lo : (ans other).length = rs.length := by simp [ans, kst_many, eol]
      have o1 : atI ((ans other).map PyData.int) (j : Int) = some (.int y) := by
        rw [atI_at (by simp; omega)]
        simp only [eb, List.getElem_map]
        rw [List.getElem_append_right (by omega)]
        simp [hAj]
      have o2 : atI ((ans other).map PyData.int) ((j : Int) + 1) = some (.int x) := by
        rw [hjl, atI_at (by simp; omega)]
        simp only [eb, List.getElem_map]
        rw [List.getElem_append_right (by omega)]
        simp [hAj]
      have t1 : ((ans other).map PyData.int).take j = A.map .int := by rw [eb]; simp [← hAj]
      have t2 : ((ans other).map PyData.int).drop (j + 2) = C.map .int := by
        rw [eb, ← hAj]
        simp [List.drop_append]
      have lA : A.length + 2 + C.length = rs.length := by rw [← lo, eb]; simp; omega
      simp only [op_ii, optQ_some, ix_l, o1, o2, cutA_take, t1]
      rw [op_ll (by simp; omega)]
      simp only [optD, optQ_some, edj, cutA_drop, t2]
      rw [op_ll (by simp; omega)]
      have e9 : (A.map PyData.int ++ [.int x, .int y]) ++ C.map .int = (ans rs).map .int := by rw [ea]; simp
      rw [e9]
      simp [lvK, esc, wC, wE, wL, ix_l, cmpD, truthD, wA, strmAt]
      refine w_copied H.toHasPr (by omega) ?_
      refine w_sums (d := d + 4) H.toHasK4 go ?_
      try simp [wA, strmAt, wE]
      refine w_copied H.toHasPr (by omega) ?_
      refine w_sums (d := d + 4) H.toHasK4 gs ?_
      rw [es]
      try simp [truthD, wB]
      exact k _ _ ⟨rfl, _, _, _, _, _, _, rfl⟩
  · obtain ⟨e, a, b, c, e1, f, g, e2⟩ := h0
    subst e
    subst e2
    try simp [isAp, wV, wE]
    exact k
end
end AH

set_option Elab.async false
set_option linter.all false
set_option maxRecDepth 100000
set_option maxHeartbeats 4000000
/-! KV8: k33's odd records. -/
namespace AH
open PySem L2
def getR (n s : Int) : PyData := .tuple [.int n, .tuple [.str "get", .int s]]
def odds33 : List PyData := [.none, .int 5, .str "ab", .list [], .tuple [], .dict [], getR 0 0, getR 64 0, getR 1 4, .tuple [.int 1, .tuple [.str "get", .int 0, .int 0]], .tuple [.int 1],
  .tuple [.bool true, .tuple [.str "get", .int 0]], .tuple [.int 1, .tuple [.str "add", .int 0]], .tuple [.int 1, .tuple [.str "add", .int 0, .int 256]], .tuple [.int 1, .tuple [.str "add", .int 0, .int (-1)]],
  .tuple [.int 1, .tuple [.str "put", .int 0, .int 1]], .tuple [.int 1, .tuple [.str "add", .bool true, .int 1]], .tuple [.int 1, .none], .tuple [.int 1, .tuple [.str "get", .int 0], .int 1], .tuple [.str "1", .tuple [.str "get", .int 0]],
  .tuple [.int 1, .tuple [.str "Get", .int 0]]]
/-- _law_kee_odd_records -/
def b219 : B := (.cons (.asg 0 (.lst (.cons .non (.cons (.int 5) (.cons (.str "ab") (.cons (.lst .nil) (.cons (.tup .nil) (.cons (.dct .nil) (.cons (.tup (.cons (.int 0) (.cons (.tup (.cons (.str "get") (.cons (.int 0) .nil))) .nil))) (.cons (.tup (.cons (.int 64) (.cons (.tup (.cons (.str "get") (.cons (.int 0) .nil))) .nil))) (.cons (.tup (.cons (.int 1) (.cons (.tup (.cons (.str "get") (.cons (.int 4) .nil))) .nil))) (.cons (.tup (.cons (.int 1) (.cons (.tup (.cons (.str "get") (.cons (.int 0) (.cons (.int 0) .nil)))) .nil))) (.cons (.tup (.cons (.int 1) .nil)) .nil)))))))))))))
  (.cons (.ex (.meth .extend (.var 0) (.cons (.lst (.cons (.tup (.cons (.bl true) (.cons (.tup (.cons (.str "get") (.cons (.int 0) .nil))) .nil))) (.cons (.tup (.cons (.int 1) (.cons (.tup (.cons (.str "add") (.cons (.int 0) .nil))) .nil))) (.cons (.tup (.cons (.int 1) (.cons (.tup (.cons (.str "add") (.cons (.int 0) (.cons (.int 256) .nil)))) .nil))) (.cons (.tup (.cons (.int 1) (.cons (.tup (.cons (.str "add") (.cons (.int 0) (.cons (.bin .sub (.int 0) (.int 1)) .nil)))) .nil))) .nil))))) .nil)))
  (.cons (.ex (.meth .extend (.var 0) (.cons (.lst (.cons (.tup (.cons (.int 1) (.cons (.tup (.cons (.str "put") (.cons (.int 0) (.cons (.int 1) .nil)))) .nil))) (.cons (.tup (.cons (.int 1) (.cons (.tup (.cons (.str "add") (.cons (.bl true) (.cons (.int 1) .nil)))) .nil))) (.cons (.tup (.cons (.int 1) (.cons .non .nil))) (.cons (.tup (.cons (.int 1) (.cons (.tup (.cons (.str "get") (.cons (.int 0) .nil))) (.cons (.int 1) .nil)))) (.cons (.tup (.cons (.str "1") (.cons (.tup (.cons (.str "get") (.cons (.int 0) .nil))) .nil))) .nil)))))) .nil)))
  (.cons (.ret (.bin .add (.var 0) (.lst (.cons (.tup (.cons (.int 1) (.cons (.tup (.cons (.str "Get") (.cons (.int 0) .nil))) .nil))) .nil))))
  .nil))))
section
variable {P : Prog} {F d B : Nat} {Q : WQ} {X : WX}
theorem w_odds (h : Has P 219 1 0 b219) (k : ∀ u, Q (.list odds33) u B) : wrun P F (d + 1) 219 [] B Q X := by
  have s1 : strOkD "ab" = true := rfl
  have s2 : strOkD "put" = true := rfl
  have s3 : strOkD "1" = true := rfl
  have s4 : strOkD "Get" = true := rfl
  rw [wrun]
  simp only [isPrim, hb h, b219, startV]
  simp [wB, wS, wE, wL, s1, s2, s3, s4, op_si, esc, ownL, nolsL, nols, lvT, lvL, lvM, isAp, wV, wV.wVL]
  exact k _
theorem notrecs (H : HasK P) : ∀ x ∈ odds33, NotRec P F x := by
  have q1 : strEq "put" "get" = false := rfl
  have q2 : strEq "put" "add" = false := rfl
  have q3 : strEq "Get" "get" = false := rfl
  have q4 : strEq "Get" "add" = false := rfl
  intro x hx d B Q X q
  rw [wrun]
  simp only [odds33, getR, List.mem_cons, List.not_mem_nil, or_false] at hx
  rcases hx with e | e | e | e | e | e | e | e | e | e | e | e | e | e | e | e | e | e | e | e | e <;> subst e <;>
    simp [isPrim, hb H.h875, b875, wB, wS, isAp, wC, wV, wE, wA, wL, strmAt, startV, w_isList H.h856, w_isNum H.h848 H.h864, isNumD, sqD, truthD, cmpD, bltD, ixD] <;>
    first | exact q | (rw [wrun]; simp [isPrim, hb H.h852, b852, wB, wS, isAp, wC, wV, wE, wA, wL, strmAt, startV, w_isList H.h856, w_isNum H.h848 H.h864, isNumD, sqD, truthD, cmpD, bltD, ixD, tyD, kdD, kTab, q1, q2, q3, q4]; exact q)
end
end AH

set_option Elab.async false
set_option linter.all false
set_option maxRecDepth 100000
set_option maxHeartbeats 400000
/-! KV9: k33's law over data: the mets. -/
namespace AH
open PySem L2
def told33 : Str := "told"
def hs33 : List (Nat × Str × HK) := [(28, "record", .fld 0), (29, "records", .fld 2), (2, "bits", .fld 0), (5, "check", .fld 0), (18, "many", .fld 0), (38, "snapshot", .fld 0), (13, "keeper", .fld 0), (35, "schedule", .fld 3), (36, "send", .fld 0)]
theorem hand29 {k : PyData} : handD told33 hs33 29 [2] [(2, k)] = some (.tuple [.str "records", k]) := rfl
theorem hand18 {k : PyData} : handD told33 hs33 18 [0] [(0, k)] = some (.tuple [.str "many", k]) := rfl
theorem so_told : strOkD told33 = true := rfl
theorem so_hs : hs33.all (fun p => strOkD p.2.1) = true := rfl
structure HasK9 (P : Prog) : Prop extends HasK6 P where
  h114 : Has P 114 7 1 b114
  h219 : Has P 219 1 0 b219
  m216 : P.met 216 = some (told33, hs33)
abbrev vx (P : Prog) (F d : Nat) : VX := ⟨⟨⟨P, run P F d, F⟩, wrun P F d⟩, fun x => apD d x ∧ (P.body 28).isSome = true⟩
section
variable {P : Prog} {F d B : Nat} {Q : WQ} {X : WX}
/-- a text that gives one thing -/
def Gives (V : VC) (a : E) (σ : VSl) (B : Nat) (x : PyData) : Prop := ∀ (Q : WQ) (X : WX), (∀ u, Q x u B) → wE V a σ B Q X
theorem lv_rec {ki : Int} : lv0 (.tuple [.str "records", .int ki]) = 2 := rfl
theorem w_m1 (H : HasK9 P) {x : PyData} {ki : Int} {a : E} {σ : VSl} (hs : strmAt a σ = false) (hb : BadAt P F x ki) (ha : Gives (vx P F (d + 13)).toVC a σ B x) (k : Q (.tuple [.str "records", .int ki]) 2 B) : wE (vx P F (d + 13)).toVC (.met 216 (.call 1168 (.cons a .nil))) σ B Q X := by
  simp only [wE, H.m216]
  refine ⟨so_told, so_hs, ?_⟩
  simp only [wA, hs]
  refine ha _ _ fun u => ?_
  refine w_sumsB (d := d + 6) H.toHasK4 hb ?_
  simp only [H.c29, optQ_some, hand29, lv_rec]
  exact k
theorem w_m2 (H : HasK9 P) {x : PyData} {ki : Int} {a : E} {σ : VSl} (hs : strmAt a σ = false) (hb : BadAt P F x ki) (ha : Gives (vx P F (d + 13)).toVC a σ B x) (k : Q (.tuple [.str "records", .int ki]) 2 B) : wE (vx P F (d + 13)).toVC (.met 216 (.call 679 (.cons a .nil))) σ B Q X := by
  simp only [wE, H.m216]
  refine ⟨so_told, so_hs, ?_⟩
  simp only [wA, hs]
  refine ha _ _ fun u => ?_
  refine w_answersB (d := d + 6) H.toHasK4 hb ?_
  simp only [H.c29, optQ_some, hand29, lv_rec]
  exact k
theorem w_m3 (H : HasK9 P) {x : PyData} {ki : Int} {a : E} {σ : VSl} (hs : strmAt a σ = false) (hb : BadAt P F x ki) (ha : Gives (vx P F (d + 13)).toVC a σ B x) (k : Q (.tuple [.str "records", .int ki]) 2 B) : wE (vx P F (d + 13)).toVC (.met 216 (.call 1173 (.cons a (.cons .non .nil)))) σ B Q X := by
  simp only [wE, H.m216]
  refine ⟨so_told, so_hs, ?_⟩
  simp only [wA, hs]
  refine ha _ _ fun u => ?_
  simp only [strmAt, wE]
  refine w_tableB (d := d + 6) H.toHasK4 hb ?_
  simp only [H.c29, optQ_some, hand29, lv_rec]
  exact k
/-- a list stands there -/
def IsLs (v : VS) : Prop := ∃ l u, v = .v (.list l) u
/-- the three mets on an odd value -/
def metsB (a : E) (n : E) (r : AH.B) : AH.B := (.cons (.asg 4 (.lst (.cons (.met 216 (.call 1168 (.cons a .nil))) .nil)))
  (.cons (.ex (.meth .append (.var 4) (.cons (.met 216 (.call 679 (.cons a .nil))) .nil)))
  (.cons (.ex (.meth .append (.var 4) (.cons (.met 216 (.call 1173 (.cons a (.cons .non .nil)))) .nil)))
  (.cons (.ite (.not (.call 491 (.cons (.var 4) (.cons (.bin .mul (.lst (.cons (.tup (.cons (.str "records") (.cons n .nil))) .nil)) (.int 3)) .nil)))) (.cons (.ret (.bl false))
  .nil) .nil)
  r))))
theorem so_rec : strOkD "records" = true := rfl
theorem w_mets (H : HasK9 P) {x : PyData} {ki : Int} {a n : E} {r : AH.B} {s0 s1 s2 s3 s4 s5 s6 s7 s8 s9 : VS} {N : VSl → Nat → Prop} {R : WQ} (hb : BadAt P F x ki)
    (hs : ∀ v : VS, strmAt a [s0, s1, s2, s3, v, s5, s6, s7, s8, s9] = false) (hv4 : 4 ∉ vsE a)
    (ha : ∀ v : VS, Gives (vx P F (d + 13)).toVC a [s0, s1, s2, s3, v, s5, s6, s7, s8, s9] B x)
    (hn : ∀ v : VS, Gives (vx P F (d + 13)).toVC n [s0, s1, s2, s3, v, s5, s6, s7, s8, s9] B (.int ki))
    (k : ∀ v, wB (vx P F (d + 13)) r [s0, s1, s2, s3, .v (.list v) 2, s5, s6, s7, s8, s9] B N R X) : wB (vx P F (d + 13)) (metsB a n r) [s0, s1, s2, s3, s4, s5, s6, s7, s8, s9] B N R X := by
  unfold metsB
  rw [wB_cons, wS_asg, wE_lst, wL_cons]
  refine w_m1 (d := d) H (hs s4) hb (ha s4) ?_
  rw [wL_nil]
  refine ⟨by simp, ?_⟩
  have e1 : ∀ vs : List Nat, esc [s0, s1, s2, s3, s4, s5, s6, s7, s8, s9] vs (lvL (min 2 2)) = [s0, s1, s2, s3, s4, s5, s6, s7, s8, s9] := fun _ => rfl
  rw [e1, wB_cons, wS_app]
  refine ⟨by decide, ?_⟩
  refine w_m2 (d := d) H (hs _) hb (ha _) ?_
  refine ⟨by decide, by simp, ?_⟩
  rw [wB_cons, wS_app]
  refine ⟨by decide, ?_⟩
  refine w_m3 (d := d) H (hs _) hb (ha _) ?_
  refine ⟨by decide, by simp, ?_⟩
  show wB _ _ [s0, s1, s2, s3, .v (.list [.tuple [.str "records", .int ki], .tuple [.str "records", .int ki], .tuple [.str "records", .int ki]]) 2, s5, s6, s7, s8, s9] B N R X
  rw [wB_cons, wS_ite, wC_not, wC_call (by decide), wE_call, wA_d (by rfl)]
  simp only [wE, List.getElem?_cons_succ, List.getElem?_cons_zero]
  rw [wA_d (by rfl), wE, wE_lst, wL_cons, wE_tup, wL_cons, wE]
  refine ⟨so_rec, ?_⟩
  rw [wL_cons]
  refine hn _ _ _ fun u => ?_
  rw [wL_nil]
  refine ⟨by simp, ?_⟩
  rw [wL_nil]
  refine ⟨by simp, ?_⟩
  rw [wE]
  have em : opD .mul (.list [PyData.tuple [PyData.str "records", PyData.int ki]]) (.int 3) = some (.list [.tuple [.str "records", .int ki], .tuple [.str "records", .int ki], .tuple [.str "records", .int ki]], lvK [PyData.tuple [PyData.str "records", PyData.int ki]]) := rfl
  rw [em, optQ_some, wA_nil]
  refine w_same (d := d + 12) H.toHasPr rfl (by simp [ddp, ddpL]) ?_
  simp only [truthD, optQ_some, Bool.not_true]
  rw [if_neg (by decide), wB_nil]
  exact k _
theorem gives_var {V : VC} {i : Nat} {σ : VSl} {B : Nat} {x : PyData} {u : Nat} (h : σ[i]? = some (.v x u)) : Gives V (.var i) σ B x := by
  intro Q X k
  rw [wE, h]
  exact k _
theorem gives_int {V : VC} {i : Int} {σ : VSl} {B : Nat} : Gives V (.int i) σ B (.int i) := by
  intro Q X k
  rw [wE]
  exact k _
def odd5 : List PyData := [.none, .int 5, .str "ab", .dict [], .bool true]
theorem w_loop1 (H : HasK9 P) {r : AH.B} {s0 s1 s2 s3 s4 s5 s6 s7 s8 s9 : VS} {N : VSl → Nat → Prop} {R : WQ}
    (k : ∀ v w, wB (vx P F (d + 13)) r [s0, s1, s2, s3, v, s5, w, s7, s8, s9] B N R X) : wB (vx P F (d + 13)) (.cons (.forS (.nm 6) (.seq (.tup (.cons .non (.cons (.int 5) (.cons (.str "ab") (.cons (.dct .nil) (.cons (.bl true) .nil))))))) (metsB (.var 6) (.int 0) .nil)) r) [s0, s1, s2, s3, s4, s5, s6, s7, s8, s9] B N R X := by
  have so2 : strOkD "ab" = true := rfl
  rw [wB_cons, wS_for]
  simp only [wI, wE, wL]
  refine ⟨so2, by simp, ?_⟩
  simp only [seqD, optQ_some]
  show wFor _ _ [s0, s1, s2, s3, s4, s5, s6, s7, s8, s9] B _
  refine wFor_inv (fun i σ B' => B' = B ∧ ∃ (v w : VS), σ = [s0, s1, s2, s3, v, s5, w, s7, s8, s9]) (odd5.map fun x => [x]) 0 _ _ ⟨rfl, _, _, rfl⟩ (fun j hj σ B' K h0 kk => ?_) fun σ B' h0 => ?_
  · obtain ⟨e, v, w, e2⟩ := h0
    subst e
    subst e2
    have hj' : j < 5 := hj
    simp only [List.getElem_map]
    rw [bv_one, bg_nm, optQ_some]
    show wB _ _ [s0, s1, s2, s3, v, s5, .v odd5[j] 0, s7, s8, s9] _ _ _ _
    have hs : sqD odd5[j] = none := by
      match j, hj' with
      | 0, _ => rfl
      | 1, _ => rfl
      | 2, _ => rfl
      | 3, _ => rfl
      | 4, _ => rfl
    refine w_mets (x := odd5[j]) (ki := 0) H (.inl ⟨hs, rfl⟩) (fun _ => rfl) (by simp [vsE]) (fun _ => gives_var rfl) (fun _ => gives_int) fun v => ?_
    rw [wB_nil]
    exact kk _ _ ⟨rfl, _, _, rfl⟩
  · obtain ⟨e, v, w, e2⟩ := h0
    subst e
    subst e2
    exact k _ _
theorem odds_dp : ∀ x ∈ odds33, ddp x ≤ 2 := by
  intro x hx
  simp only [odds33, getR, List.mem_cons, List.not_mem_nil, or_false] at hx
  rcases hx with e | e | e | e | e | e | e | e | e | e | e | e | e | e | e | e | e | e | e | e | e <;> subst e <;> decide
theorem w_loop2 (H : HasK9 P) {rs : List Kr} (ho : ∀ r ∈ rs, r.okr) (hl : rs.length < 100) {r : AH.B} {s0 s1 s2 s3 s4 s6 s8 s9 : VS} {at' : Nat} {u5 u7 : Nat} (hat : at' ≤ rs.length) {N : VSl → Nat → Prop} {R : WQ}
    (k : ∀ v w z u5 u7, IsLs v → IsLs z → wB (vx P F (d + 13)) r [s0, s1, s2, s3, v, .v (.list (rs.map Kr.d)) u5, w, .v (.int at') u7, z, s9] B N R X) : wB (vx P F (d + 13)) (.cons (.forS (.nm 6) (.seq (.call 219 .nil)) (.cons (.asg 8 (.bin .add (.bin .add (.sl (.var 5) .non (.var 7)) (.lst (.cons (.call 101 (.cons (.var 6) .nil)) .nil))) (.sl (.var 5) (.var 7) .non)))
  (metsB (.call 101 (.cons (.var 8) .nil)) (.var 7) .nil))) r) [s0, s1, s2, s3, s4, .v (.list (rs.map Kr.d)) u5, s6, .v (.int at') u7, s8, s9] B N R X := by
  rw [wB_cons, wS_for]
  simp only [wI, wE_call, wA_nil]
  refine w_odds (d := d + 12) H.h219 fun u => ?_
  simp only [seqD, optQ_some]
  show wFor _ _ [s0, s1, s2, s3, s4, .v (.list (rs.map Kr.d)) u5, s6, .v (.int at') u7, s8, s9] B _
  refine wFor_inv (fun i σ B' => B' = B ∧ ∃ (v w z : VS) (u5 u7 : Nat), σ = [s0, s1, s2, s3, v, .v (.list (rs.map Kr.d)) u5, w, .v (.int at') u7, z, s9] ∧ (0 < i → IsLs v ∧ IsLs z)) (odds33.map fun x => [x]) 0 _ _ ⟨rfl, _, _, _, _, _, rfl, by omega⟩ (fun j hj σ B' K h0 kk => ?_) fun σ B' h0 => ?_
  · obtain ⟨e, v, w, z, u5', u7', e2, hz⟩ := h0
    subst e
    subst e2
    have hj' : j < odds33.length := by simpa using hj
    have hm := List.getElem_mem hj'
    have hdx := odds_dp _ hm
    simp only [List.getElem_map]
    rw [bv_one, bg_nm, optQ_some]
    generalize odds33[j] = x at hm hdx
    show wB _ _ [s0, s1, s2, s3, v, .v (.list (rs.map Kr.d)) u5', .v x 0, .v (.int at') u7', z, s9] _ _ _ _
    rw [wB_cons, wS_asg]
    simp only [wE, wL, wA_nil, List.getElem?_cons_succ, List.getElem?_cons_zero]
    simp only [optD, optQ_some, slD, cutA_take, cutA_drop]
    rw [wA_d (by rfl), wE]
    simp only [List.getElem?_cons_succ, List.getElem?_cons_zero, wA_nil]
    refine w_copied (d := d + 12) H.toHasPr (by omega) ?_
    refine ⟨by simp, ?_⟩
    rw [op_ll (by simp; omega), optQ_some]
    rw [op_ll (by simp; omega), optQ_some]
    generalize hys : (rs.map Kr.d).take at' ++ [x] ++ (rs.map Kr.d).drop at' = ys
    have hlen : (rs.take at').length = at' := by simp; omega
    have hbad : BadAt P F (.list ys) at' := by
      refine .inr ⟨ys, (rs.map Kr.d).take at', x, (rs.map Kr.d).drop at', rs.take at', rfl, by rw [← hys]; simp, by rw [← List.map_take, List.map_map]; rfl, fun r hr => ho r (List.mem_of_mem_take hr), by simp; omega, notrecs H.toHasK x hm⟩
    have hdy : ddp (.list ys) ≤ 4 := by
      simp only [ddp]
      have := ddpL_le (n := 3) (xs := ys) fun z hz => by
        rw [← hys] at hz
        simp at hz
        rcases hz with z1 | z1 | z1
        · have := List.mem_of_mem_take z1
          obtain ⟨r, _, e⟩ := List.mem_map.1 this
          rw [← e, kr_dp]; omega
        · rw [z1]; omega
        · have := List.mem_of_mem_drop z1
          obtain ⟨r, _, e⟩ := List.mem_map.1 this
          rw [← e, kr_dp]; omega
      omega
    have main : ∀ (q5 q6 q7 q8 : Nat), wB (vx P F (d + 13)) (metsB (.call 101 (.cons (.var 8) .nil)) (.var 7) .nil) [s0, s1, s2, s3, v, .v (.list (rs.map Kr.d)) q5, .v x q6, .v (.int at') q7, .v (.list ys) q8, s9] B' K R X := by
      intro q5 q6 q7 q8
      refine w_mets (x := .list ys) (ki := at') H hbad (fun _ => rfl) (by simp [vsE, vsL]) (fun _ => ?_) (fun _ => gives_var rfl) fun v => ?_
      · intro Q X k
        rw [wE_call, wA_d (by rfl), wE]
        simp only [List.getElem?_cons_succ, List.getElem?_cons_zero, wA_nil]
        exact w_copied (d := d + 12) H.toHasPr (by omega) (k _)
      · rw [wB_nil]
        exact kk _ _ ⟨rfl, _, _, _, _, _, rfl, fun _ => ⟨⟨_, _, rfl⟩, ⟨_, _, rfl⟩⟩⟩
    unfold esc
    split
    · exact main _ _ _ _
    · exact main _ _ _ _
  · obtain ⟨e, v, w, z, u5', u7', e2, hz⟩ := h0
    subst e
    subst e2
    obtain ⟨z1, z2⟩ := hz (by decide)
    exact k _ _ _ _ _ z1 z2
def odd6 : List PyData := [.none, .int (-1), .bool true, .str "1", .list [.int 1], .dict []]
theorem w_loop3 (H : HasK9 P) {rs : List Kr} (ho : ∀ r ∈ rs, r.okr) (hl : rs.length < 100) {s0 s1 s2 s3 s4 s6 s7 s8 s9 : VS} {u5 : Nat} {N : VSl → Nat → Prop} {R : WQ}
    (k : ∀ u5, N [s0, s1, s2, s3, s4, .v (.list (rs.map Kr.d)) u5, .v (.dict []) 0, s7, s8, s9] B) : wB (vx P F (d + 13)) (.cons (.forS (.nm 6) (.seq (.tup (.cons .non (.cons (.bin .sub (.int 0) (.int 1)) (.cons (.bl true) (.cons (.str "1") (.cons (.lst (.cons (.int 1) .nil)) (.cons (.dct .nil) .nil)))))))) (.cons (.ite (.not (.call 491 (.cons (.met 216 (.call 1173 (.cons (.call 101 (.cons (.var 5) .nil)) (.cons (.call 101 (.cons (.var 6) .nil)) .nil)))) (.cons (.tup (.cons (.str "many") (.cons (.var 6) .nil))) .nil)))) (.cons (.ret (.bl false))
  .nil) .nil)
  .nil)) .nil) [s0, s1, s2, s3, s4, .v (.list (rs.map Kr.d)) u5, s6, s7, s8, s9] B N R X := by
  have so3 : strOkD "1" = true := rfl
  have so4 : strOkD "many" = true := rfl
  have hdp := krs_dp rs
  rw [wB_cons, wS_for]
  simp only [wI, wE, wL, op_si, optQ_some]
  refine ⟨so3, by simp, by simp, ?_⟩
  simp only [seqD, optQ_some]
  show wFor _ _ [s0, s1, s2, s3, s4, .v (.list (rs.map Kr.d)) u5, s6, s7, s8, s9] B _
  refine wFor_inv (fun i σ B' => B' = B ∧ ∃ (w : VS) (u5 : Nat), σ = [s0, s1, s2, s3, s4, .v (.list (rs.map Kr.d)) u5, w, s7, s8, s9] ∧ (i = 6 → w = .v (.dict []) 0)) (odd6.map fun x => [x]) 0 _ _ ⟨rfl, _, _, rfl, by omega⟩ (fun j hj σ B' K h0 kk => ?_) fun σ B' h0 => ?_
  · obtain ⟨e, w, u5', e2, _⟩ := h0
    subst e
    subst e2
    have hj' : j < 6 := hj
    simp only [List.getElem_map]
    rw [bv_one, bg_nm, optQ_some]
    show wB _ _ [s0, s1, s2, s3, s4, .v (.list (rs.map Kr.d)) u5', .v odd6[j] 0, s7, s8, s9] _ _ _ _
    have hx : isNumD odd6[j] = false ∧ ddp odd6[j] ≤ 2 ∧ (0 + j + 1 = 6 → VS.v odd6[j] 0 = .v (.dict []) 0) := by
      match j, hj' with
      | 0, _ => exact ⟨rfl, by simp [odd6, ddp, ddpL], by omega⟩
      | 1, _ => exact ⟨rfl, by simp [odd6, ddp, ddpL], by omega⟩
      | 2, _ => exact ⟨rfl, by simp [odd6, ddp, ddpL], by omega⟩
      | 3, _ => exact ⟨rfl, by simp [odd6, ddp, ddpL], by omega⟩
      | 4, _ => exact ⟨rfl, by simp [odd6, ddp, ddpL], by omega⟩
      | 5, _ => exact ⟨rfl, by simp [odd6, ddp, ddpL], fun _ => rfl⟩
    obtain ⟨h1, h2, h3⟩ := hx
    have kk' := kk [s0, s1, s2, s3, s4, .v (.list (rs.map Kr.d)) u5', .v odd6[j] 0, s7, s8, s9] B' ⟨rfl, _, _, rfl, h3⟩
    generalize odd6[j] = x at h1 h2 kk'
    rw [wB_cons, wS_ite, wC_not, wC_call (by decide), wE_call, wA_d (by rfl)]
    simp only [wE, H.m216]
    refine ⟨so_told, so_hs, ?_⟩
    rw [wA_d (by rfl), wE_call, wA_d (by rfl)]
    simp only [wE, List.getElem?_cons_succ, List.getElem?_cons_zero, wA_nil]
    refine w_copied (d := d + 12) H.toHasPr (by omega) ?_
    rw [wA_d (by rfl), wE_call, wA_d (by rfl)]
    simp only [wE, List.getElem?_cons_succ, List.getElem?_cons_zero, wA_nil]
    refine w_copied (d := d + 12) H.toHasPr (by omega) ?_
    refine w_tableM (d := d + 6) H.toHasK4 (good_self ho (by omega)) h1 ?_
    simp only [H.c18, optQ_some, hand18]
    rw [wA_d (by rfl), wE_tup, wL_cons, wE]
    refine ⟨so4, ?_⟩
    rw [wL_cons, wE]
    simp only [List.getElem?_cons_succ, List.getElem?_cons_zero, wL_nil, wA_nil]
    refine ⟨by simp, ?_⟩
    refine w_same (d := d + 12) H.toHasPr rfl (by simp [ddp, ddpL]; omega) ?_
    simp only [truthD, optQ_some, Bool.not_true]
    rw [if_neg (by decide), wB_nil, wB_nil]
    exact kk'
  · obtain ⟨e, w, u5', e2, e3⟩ := h0
    subst e
    subst e2
    rw [e3 rfl, wB_nil]
    exact k _
def lawTurn : AH.B := (.cons (.asg 5 (.call 222 (.cons (.var 1) (.cons (.int 14) .nil))))
  (.cons (.ite (.or (.not (.call 108 (.cons (.var 1) (.cons (.var 5) .nil)))) (.not (.call 114 (.cons (.var 5) .nil)))) (.cons (.ret (.bl false))
  .nil) .nil)
  (.cons (.forS (.nm 6) (.seq (.tup (.cons .non (.cons (.int 5) (.cons (.str "ab") (.cons (.dct .nil) (.cons (.bl true) .nil))))))) (metsB (.var 6) (.int 0) .nil))
  (.cons (.asg 7 (.call 109 (.cons (.var 1) (.cons (.bin .add (.blt .len (.cons (.var 5) .nil)) (.int 1)) .nil))))
  (.cons (.forS (.nm 6) (.seq (.call 219 .nil)) (.cons (.asg 8 (.bin .add (.bin .add (.sl (.var 5) .non (.var 7)) (.lst (.cons (.call 101 (.cons (.var 6) .nil)) .nil))) (.sl (.var 5) (.var 7) .non)))
  (metsB (.call 101 (.cons (.var 8) .nil)) (.var 7) .nil)))
  (.cons (.forS (.nm 6) (.seq (.tup (.cons .non (.cons (.bin .sub (.int 0) (.int 1)) (.cons (.bl true) (.cons (.str "1") (.cons (.lst (.cons (.int 1) .nil)) (.cons (.dct .nil) .nil)))))))) (.cons (.ite (.not (.call 491 (.cons (.met 216 (.call 1173 (.cons (.call 101 (.cons (.var 5) .nil)) (.cons (.call 101 (.cons (.var 6) .nil)) .nil)))) (.cons (.tup (.cons (.str "many") (.cons (.var 6) .nil))) .nil)))) (.cons (.ret (.bl false))
  .nil) .nil)
  .nil))
  .nil))))))
theorem vx_call : (vx P F d).call = wrun P F d := rfl
theorem w_turn (H : HasK9 P) {s0 s2 s3 s4 s5 s6 s7 s8 s9 : VS} {N : VSl → Nat → Prop} {R : WQ} (hB : B + 100000 < 1099511627776)
    (k : ∀ (v z : VS) (rs : List Kr) (u5 u7 : Nat) (at' : Int) B', IsLs v → IsLs z → B' ≤ B + 10000 → N [s0, .strm, s2, s3, v, .v (.list (rs.map Kr.d)) u5, .v (.dict []) 0, .v (.int at') u7, z, s9] B') : wB (vx P F (d + 13)) lawTurn [s0, .strm, s2, s3, s4, s5, s6, s7, s8, s9] B N R X := by
  unfold lawTurn
  rw [wB_cons, wS_asg, wE_call, wA_s (by rfl), wA_d (by rfl), wE, wA_nil]
  rw [show (PyData.int 14) = .int ((14 : Nat) : Int) from rfl]
  rw [vx_call]
  refine w_keerecs (d := d + 8) (B := B) (many := 14) H.toHasPr H.h223 H.h222 (by omega) (by omega) fun rs B1 ho hl hB1 => ?_
  show wB _ _ [s0, .strm, s2, s3, s4, .v (.list (rs.map Kr.d)) 2, s6, s7, s8, s9] _ _ _ _
  rw [wB_cons, wS_ite, wC_or, wC_not, wC_call (by decide), wE_call, wA_s (by rfl), wA_d (by rfl), wE]
  simp only [List.getElem?_cons_succ, List.getElem?_cons_zero, wA_nil]
  refine w_doneright (d := d + 1) (B := B1) H.toHasK6 ho (by omega) (by omega) fun B2 hB2 => ?_
  simp only [truthD, optQ_some, Bool.not_true, Bool.false_eq_true, if_false]
  rw [wC_not, wC_call (by decide), wE_call, wA_d (by rfl), wE]
  simp only [List.getElem?_cons_succ, List.getElem?_cons_zero, wA_nil]
  refine w_exch (d := d + 1) (B := B2) H.toHasK6 H.h114 ho (by omega) ?_
  simp only [truthD, optQ_some, Bool.not_true, Bool.false_eq_true, if_false]
  rw [wB_nil]
  refine w_loop1 H fun v w => ?_
  rw [wB_cons, wS_asg, wE_call, wA_s (by rfl), wA_d (by rfl)]
  simp only [wE, wL, List.getElem?_cons_succ, List.getElem?_cons_zero, wA_nil, bltD, optQ_some, op_ii, List.length_map]
  refine w_draw (d := d + 12) (B := B2) H.toHasPr (by omega) (by omega) (by omega) fun at' a0 a1 => ?_
  show wB _ _ [s0, .strm, s2, s3, v, .v (.list (rs.map Kr.d)) 2, w, .v (.int at') 2, s8, s9] _ _ _ _
  obtain ⟨n, rfl⟩ : ∃ n : Nat, at' = (n : Int) := ⟨at'.toNat, by omega⟩
  refine w_loop2 H ho (by omega) (by omega) fun v w z u5 u7 i1 i2 => ?_
  refine w_loop3 H ho (by omega) fun u5 => ?_
  exact k _ _ rs _ _ _ _ i1 i2 (by omega)
end
end AH

set_option Elab.async false
set_option linter.all false
set_option maxRecDepth 100000
set_option maxHeartbeats 400000
/-! KV10: k33's law over data. -/
namespace AH
open PySem L2
def law33 (tl : AH.B) : AH.B := .cons (.forS (.nm 2) (.rng1 (.int 10)) lawTurn) (.iso tl)
theorem w_law33 {P : Prog} {F d : Nat} (H : HasK9 P) {tl : AH.B} (ht : ∀ z : Int, ∃ h, evB ⟨P, run P F (d + 13), F⟩ tl [none, none, some (.int 9), none, none, none, none, some (.int z), none, none] AHp.emp = .rt (.bl true) h) : wB (vx P F (d + 13)) (law33 tl) [.no, .strm, .no, .no, .no, .no, .no, .no, .no, .no] 0 (fun _ _ => False) (fun x _ _ => x = .bool true) noWX := by
  unfold law33
  rw [wB_cons, wS_for]
  simp only [wI, wE]
  refine ⟨rfl, ?_⟩
  show wFor _ _ [.no, .strm, .no, .no, .no, .no, .no, .no, .no, .no] 0 _
  refine wFor_inv (fun i σ B' => B' ≤ 10000 * i ∧ ∃ (s2 s4 s5 s6 s7 s8 : VS), σ = [.no, .strm, s2, .no, s4, s5, s6, s7, s8, .no] ∧ (0 < i → s2 = .v (.int ((i : Int) - 1)) 0 ∧ IsLs s4 ∧ IsLs s5 ∧ s6 = .v (.dict []) 0 ∧ (∃ z u, s7 = .v (.int z) u) ∧ IsLs s8)) ((rngD 0 10).map fun x => [x]) 0 _ _ ⟨by omega, _, _, _, _, _, _, rfl, by omega⟩ (fun j hj σ B' K h0 kk => ?_) fun σ B' h0 => ?_
  · obtain ⟨hB, s2, s4, s5, s6, s7, s8, e2, _⟩ := h0
    subst e2
    have hj' : j < 10 := by simpa [rngD_map] using hj
    simp only [List.getElem_map, rngD_get]
    rw [bv_one, bg_nm, optQ_some]
    show wB _ _ [.no, .strm, .v (.int j) 0, .no, s4, s5, s6, s7, s8, .no] _ _ _ _
    refine w_turn H (by omega) fun v z rs u5 u7 at' B2 i1 i2 hB2 => ?_
    refine kk _ _ ⟨by omega, _, _, _, _, _, _, rfl, fun _ => ⟨?_, i1, ⟨_, _, rfl⟩, rfl, ⟨_, _, rfl⟩, i2⟩⟩
    congr 2
    omega
  · obtain ⟨hB, s2, s4, s5, s6, s7, s8, e2, hz⟩ := h0
    subst e2
    have e10 : 0 + ((rngD 0 10).map fun x => [x]).length = 10 := rfl
    rw [e10] at hz
    obtain ⟨rfl, ⟨l4, u4, rfl⟩, ⟨l5, u5, rfl⟩, rfl, ⟨z, u7, rfl⟩, ⟨l8, u8, rfl⟩⟩ := hz (by decide)
    obtain ⟨h, hh⟩ := ht z
    rw [wB]
    exact ⟨.bl true, h, hh, rfl, rfl⟩
end AH

set_option Elab.async false
set_option linter.all false
set_option maxRecDepth 100000
set_option maxHeartbeats 0
namespace L33
open PySem PySem.Spec PyProof.Rows L2 AH
/-! printed by gen.py for sentjustonce_k33_whole_sums_and_tables -/
abbrev P0 : Program := PySem.Challenge.pw_sentjustonce_k33_whole_sums_and_tables
def dAt (i : Nat) : He.DefD := match P0.main.body[i]? with
  | some (.FunctionDef n a b _ _ _ sc _ _ _) => ⟨(n, none), n, n, a, b, sc, [], []⟩
  | _ => ⟨(Str.empty, none), Str.empty, Str.empty, ⟨[], [], none, [], [], none, []⟩, [], ⟨.function, [], false, false, []⟩, [], []⟩
def dIn (i : Nat) : He.DefD := match P0.main.body[i]? with
  | some (.ClassDef cn _ _ (.FunctionDef n a b _ _ _ sc _ _ _ :: _) _ _ _ _ _ _ _) => ⟨(cn, some n), n, cn ++ "." ++ n, a, b, sc, [], []⟩
  | _ => dAt 1000000
/-- is_list -/
def b856 : B := (.cons (.ret (.isa (.var 0) false [.list, .tuple]))
  .nil)
/-- is_integer -/
def b848 : B := (.cons (.ret (.and (.isa (.var 0) true [.int]) (.not (.isa (.var 0) true [.bool]))))
  .nil)
/-- is_number -/
def b864 : B := (.cons (.ret (.and (.call 848 (.cons (.var 0) .nil)) (.cmp .ge (.var 0) (.int 0))))
  .nil)
/-- is_kept_request -/
def b852 : B := (.cons (.ite (.or (.not (.call 856 (.cons (.var 0) .nil))) (.or (.cmp .lt (.blt .len (.cons (.var 0) .nil)) (.int 2)) (.not (.isa (.sub (.var 0) (.int 0)) true [.str])))) (.cons (.ret (.bl false))
  .nil) .nil)
  (.cons (.ite (.or (.not (.call 864 (.cons (.sub (.var 0) (.int 1)) .nil))) (.cmp .gt (.sub (.var 0) (.int 1)) (.int 3))) (.cons (.ret (.bl false))
  .nil) .nil)
  (.cons (.ite (.cmp .eq (.sub (.var 0) (.int 0)) (.str "get")) (.cons (.ret (.cmp .eq (.blt .len (.cons (.var 0) .nil)) (.int 2)))
  .nil) .nil)
  (.cons (.ret (.and (.cmp .eq (.sub (.var 0) (.int 0)) (.str "add")) (.and (.cmp .eq (.blt .len (.cons (.var 0) .nil)) (.int 3)) (.and (.call 864 (.cons (.sub (.var 0) (.int 2)) .nil)) (.cmp .lt (.sub (.var 0) (.int 2)) (.int 256))))))
  .nil))))
/-- is_record -/
def b875 : B := (.cons (.ite (.or (.not (.call 856 (.cons (.var 0) .nil))) (.or (.cmp .ne (.blt .len (.cons (.var 0) .nil)) (.int 2)) (.not (.call 864 (.cons (.sub (.var 0) (.int 0)) .nil))))) (.cons (.ret (.bl false))
  .nil) .nil)
  (.cons (.ret (.and (.cmp2 .lt .lt (.int 0) (.sub (.var 0) (.int 0)) (.int 64)) (.call 852 (.cons (.sub (.var 0) (.int 1)) .nil))))
  .nil))
/-- told_pair -/
def b1190 : B := (.cons (.ret (.tup (.cons (.sub (.var 0) (.int 0)) (.cons (.tupE (.sub (.var 0) (.int 1))) .nil))))
  .nil)
/-- known_records -/
def b913 : B := (.cons (.ite (.not (.call 856 (.cons (.var 0) .nil))) (.cons (.raise 29 (.cons (.int 0) .nil))
  .nil) .nil)
  (.cons (.forS (.tp (.cons (.nm 1) (.cons (.nm 2) .nil))) (.enum (.var 0)) (.cons (.ite (.not (.call 875 (.cons (.var 2) .nil))) (.cons (.raise 29 (.cons (.var 1) .nil))
  .nil) .nil)
  .nil))
  (.cons (.ret (.lc (.call 1190 (.cons (.var 2) .nil)) (.nm 2) (.seq (.var 0)) [2]))
  .nil)))
/-- done_by -/
def b792 : B := (.cons (.asg 2 (.lstE (.var 0)))
  (.cons (.ite (.cmp .eq (.sub (.var 1) (.int 0)) (.str "add")) (.cons (.setix (.var 2) (.sub (.var 1) (.int 1)) (.bin .mod (.bin .add (.sub (.var 2) (.sub (.var 1) (.int 1))) (.sub (.var 1) (.int 2))) (.int 65536)))
  .nil) .nil)
  (.cons (.ret (.tup (.cons (.var 2) (.cons (.sub (.var 2) (.sub (.var 1) (.int 1))) .nil))))
  .nil)))
/-- done_all -/
def b791 : B := (.cons (.asg 2 (.lst .nil))
  (.cons (.forS (.tp (.cons (.nm 3) (.cons (.nm 4) .nil))) (.seq (.var 1)) (.cons (.asgT (.cons (.nm 0) (.cons (.nm 5) .nil)) (.call 792 (.cons (.var 0) (.cons (.var 4) .nil))))
  (.cons (.ex (.meth .append (.var 2) (.cons (.tup (.cons (.var 3) (.cons (.var 5) .nil))) .nil)))
  .nil)))
  (.cons (.ret (.tup (.cons (.lstE (.var 0)) (.cons (.var 2) .nil))))
  .nil)))
/-- last_ones -/
def b917 : B := (.cons (.ret (.sl (.var 0) (.blt .max2 (.cons (.int 0) (.cons (.bin .sub (.blt .len (.cons (.var 0) .nil)) (.var 1)) .nil))) .non))
  .nil)
/-- known_many -/
def b912 : B := (.cons (.ite (.not (.call 864 (.cons (.var 0) .nil))) (.cons (.raise 18 (.cons (.var 0) .nil))
  .nil) .nil)
  (.cons (.ret (.var 0))
  .nil))
/-- sums_after -/
def b1168 : B := (.cons (.ret (.sub (.call 791 (.cons (.lst (.cons (.int 0) (.cons (.int 0) (.cons (.int 0) (.cons (.int 0) .nil))))) (.cons (.call 913 (.cons (.var 0) .nil)) .nil))) (.int 0)))
  .nil)
/-- answers_of -/
def b679 : B := (.cons (.ret (.lc (.var 2) (.tp (.cons (.nm 1) (.cons (.nm 2) .nil))) (.seq (.sub (.call 791 (.cons (.lst (.cons (.int 0) (.cons (.int 0) (.cons (.int 0) (.cons (.int 0) .nil))))) (.cons (.call 913 (.cons (.var 0) .nil)) .nil))) (.int 1))) [1, 2]))
  .nil)
/-- table_behind -/
def b1173 : B := (.cons (.asg 2 (.call 913 (.cons (.var 0) .nil)))
  (.cons (.ret (.call 917 (.cons (.sub (.call 791 (.cons (.lst (.cons (.int 0) (.cons (.int 0) (.cons (.int 0) (.cons (.int 0) .nil))))) (.cons (.var 2) .nil))) (.int 1)) (.cons (.call 912 (.cons (.var 1) .nil)) .nil))))
  .nil))
/-- _law_kee_request -/
def b223 : B := (.cons (.asg 1 (.call 109 (.cons (.var 0) (.cons (.int 4) .nil))))
  (.cons (.ret (.ite (.cmp .eq (.call 109 (.cons (.var 0) (.cons (.int 3) .nil))) (.int 0)) (.tup (.cons (.str "get") (.cons (.var 1) .nil))) (.tup (.cons (.str "add") (.cons (.var 1) (.cons (.call 431 (.cons (.var 0) (.cons (.lst (.cons (.int 0) (.cons (.int 1) (.cons (.int 7) (.cons (.int 255) (.cons (.int 128) (.cons (.int 99) .nil))))))) .nil))) .nil))))))
  .nil))
/-- _law_kee_records -/
def b222 : B := (.cons (.ret (.lc (.tup (.cons (.bin .add (.int 1) (.call 109 (.cons (.var 0) (.cons (.int 63) .nil)))) (.cons (.call 223 (.cons (.var 0) .nil)) .nil))) (.nm 2) (.rng1 (.call 109 (.cons (.var 0) (.cons (.bin .add (.var 1) (.int 1)) .nil)))) [2]))
  .nil)
/-- _law_kee_done -/
def b212 : B := (.cons (.asg 2 (.lstE (.var 0)))
  (.cons (.ite (.cmp .eq (.sub (.var 1) (.int 0)) (.str "add")) (.cons (.setix (.var 2) (.sub (.var 1) (.int 1)) (.bin .mod (.blt .int (.cons (.bin .add (.sub (.var 2) (.sub (.var 1) (.int 1))) (.sub (.var 1) (.int 2))) .nil)) (.int 65536)))
  .nil) .nil)
  (.cons (.ret (.tup (.cons (.var 2) (.cons (.sub (.var 2) (.sub (.var 1) (.int 1))) .nil))))
  .nil)))
/-- _law_kee_all -/
def b209 : B := (.cons (.asg 2 (.lst .nil))
  (.cons (.forS (.tp (.cons (.nm 3) (.cons (.nm 4) .nil))) (.seq (.var 1)) (.cons (.asgT (.cons (.nm 0) (.cons (.nm 5) .nil)) (.call 212 (.cons (.var 0) (.cons (.var 4) .nil))))
  (.cons (.ex (.meth .append (.var 2) (.cons (.tup (.cons (.var 3) (.cons (.var 5) .nil))) .nil)))
  .nil)))
  (.cons (.ret (.tup (.cons (.lstE (.var 0)) (.cons (.var 2) .nil))))
  .nil)))
/-- _law_kee_odd_records -/
def b219 : B := (.cons (.asg 0 (.lst (.cons .non (.cons (.int 5) (.cons (.str "ab") (.cons (.lst .nil) (.cons (.tup .nil) (.cons (.dct .nil) (.cons (.tup (.cons (.int 0) (.cons (.tup (.cons (.str "get") (.cons (.int 0) .nil))) .nil))) (.cons (.tup (.cons (.int 64) (.cons (.tup (.cons (.str "get") (.cons (.int 0) .nil))) .nil))) (.cons (.tup (.cons (.int 1) (.cons (.tup (.cons (.str "get") (.cons (.int 4) .nil))) .nil))) (.cons (.tup (.cons (.int 1) (.cons (.tup (.cons (.str "get") (.cons (.int 0) (.cons (.int 0) .nil)))) .nil))) (.cons (.tup (.cons (.int 1) .nil)) .nil)))))))))))))
  (.cons (.ex (.meth .extend (.var 0) (.cons (.lst (.cons (.tup (.cons (.bl true) (.cons (.tup (.cons (.str "get") (.cons (.int 0) .nil))) .nil))) (.cons (.tup (.cons (.int 1) (.cons (.tup (.cons (.str "add") (.cons (.int 0) .nil))) .nil))) (.cons (.tup (.cons (.int 1) (.cons (.tup (.cons (.str "add") (.cons (.int 0) (.cons (.int 256) .nil)))) .nil))) (.cons (.tup (.cons (.int 1) (.cons (.tup (.cons (.str "add") (.cons (.int 0) (.cons (.bin .sub (.int 0) (.int 1)) .nil)))) .nil))) .nil))))) .nil)))
  (.cons (.ex (.meth .extend (.var 0) (.cons (.lst (.cons (.tup (.cons (.int 1) (.cons (.tup (.cons (.str "put") (.cons (.int 0) (.cons (.int 1) .nil)))) .nil))) (.cons (.tup (.cons (.int 1) (.cons (.tup (.cons (.str "add") (.cons (.bl true) (.cons (.int 1) .nil)))) .nil))) (.cons (.tup (.cons (.int 1) (.cons .non .nil))) (.cons (.tup (.cons (.int 1) (.cons (.tup (.cons (.str "get") (.cons (.int 0) .nil))) (.cons (.int 1) .nil)))) (.cons (.tup (.cons (.str "1") (.cons (.tup (.cons (.str "get") (.cons (.int 0) .nil))) .nil))) .nil)))))) .nil)))
  (.cons (.ret (.bin .add (.var 0) (.lst (.cons (.tup (.cons (.int 1) (.cons (.tup (.cons (.str "Get") (.cons (.int 0) .nil))) .nil))) .nil))))
  .nil))))
/-- _law_start -/
def b529 : B := (.cons (.ret (.lst (.cons (.lstE (.var 0)) (.cons (.int 0) (.cons (.int 0) (.cons (.int 89) .nil))))))
  .nil)
/-- _law_draw -/
def b109 : B := (.cons (.setix (.var 0) (.int 2) (.bin .add (.sub (.var 0) (.int 2)) (.int 1)))
  (.cons (.whl (.and (.cmp .eq (.sub (.var 0) (.int 1)) (.int 0)) (.cmp .ne (.sub (.var 0) (.int 0)) (.lst .nil))) (.cons (.asg 3 (.meth .popAt (.sub (.var 0) (.int 0)) (.cons (.int 0) .nil)))
  (.cons (.setix (.var 0) (.int 3) (.bin .mod (.blt .int (.cons (.bin .add (.bin .add (.bin .mul (.sub (.var 0) (.int 3)) (.int 72103)) (.var 3)) (.int 43)) .nil)) (.int 2147483647)))
  (.cons (.setix (.var 0) (.int 1) (.ite (.cmp .ge (.var 3) (.bin .pow (.int 10) (.int 18))) (.var 3) (.int 0)))
  .nil))))
  (.cons (.ite (.cmp .gt (.sub (.var 0) (.int 1)) (.int 0)) (.cons (.asg 4 (.bin .mod (.blt .int (.cons (.sub (.var 0) (.int 1)) .nil)) (.var 1)))
  (.cons (.setix (.var 0) (.int 1) (.bin .fdiv (.sub (.var 0) (.int 1)) (.var 1)))
  (.cons (.ret (.var 4))
  .nil))) .nil)
  (.cons (.asg 2 (.bin .mod (.blt .int (.cons (.bin .pow (.bin .add (.bin .add (.sub (.var 0) (.int 3)) (.bin .mul (.int 9161) (.sub (.var 0) (.int 2)))) (.int 190027)) (.int 5)) .nil)) (.int 2147483629)))
  (.cons (.ret (.bin .mod (.bin .mod (.blt .int (.cons (.bin .pow (.bin .add (.bin .add (.bin .mul (.var 2) (.int 63029)) (.bin .mul (.int 74017) (.sub (.var 0) (.int 2)))) (.int 61)) (.int 3)) .nil)) (.int 1000000007)) (.var 1)))
  .nil)))))
/-- _law_pick -/
def b431 : B := (.cons (.ret (.sub (.var 1) (.call 109 (.cons (.var 0) (.cons (.blt .len (.cons (.var 1) .nil)) .nil)))))
  .nil)
/-- _law_mixed -/
def b344 : B := (.cons (.asg 2 (.lstE (.var 1)))
  (.cons (.ret (.lc (.meth .popAt (.var 2) (.cons (.call 109 (.cons (.var 0) (.cons (.blt .len (.cons (.var 2) .nil)) .nil))) .nil)) (.nm 3) (.rng1 (.blt .len (.cons (.var 2) .nil))) [3]))
  .nil))
/-- _law_copied -/
def b101 : B := (.cons (.ite (.isa (.var 0) true [.dict]) (.cons (.ret (.dctE (.lock 0 (.lc (.tup (.cons (.var 3) (.cons (.call 101 (.cons (.sub (.var 0) (.var 3)) .nil)) .nil))) (.nm 3) (.keys (.var 0)) [3]))))
  .nil) .nil)
  (.cons (.ite (.not (.isa (.var 0) false [.list, .tuple])) (.cons (.ret (.var 0))
  .nil) .nil)
  (.cons (.asg 1 (.lc (.call 101 (.cons (.var 2) .nil)) (.nm 2) (.seq (.var 0)) [2]))
  (.cons (.ret (.ite (.isa (.var 0) true [.list]) (.var 1) (.tupE (.var 1))))
  .nil))))
/-- _law_same -/
def b491 : B := (.cons (.ite (.isa (.var 1) false [.list, .tuple]) (.cons (.ite (.or (.cmp .ne (.isa (.var 0) true [.list]) (.isa (.var 1) true [.list])) (.cmp .ne (.isa (.var 0) true [.tuple]) (.isa (.var 1) true [.tuple]))) (.cons (.ret (.bl false))
  .nil) .nil)
  (.cons (.ret (.and (.cmp .eq (.blt .len (.cons (.var 0) .nil)) (.blt .len (.cons (.var 1) .nil))) (.blt .all (.cons (.lc (.call 491 (.cons (.var 2) (.cons (.var 3) .nil))) (.tp (.cons (.nm 2) (.cons (.nm 3) .nil))) (.zip (.var 0) (.var 1)) [2, 3]) .nil))))
  .nil)) .nil)
  (.cons (.ite (.isa (.var 1) true [.dict]) (.cons (.ret (.and (.isa (.var 0) true [.dict]) (.call 491 (.cons (.lstIt (.var 0)) (.cons (.lstIt (.var 1)) .nil)))))
  .nil) .nil)
  (.cons (.ite (.isa (.var 1) true [.int]) (.cons (.ret (.and (.isa (.var 0) true [.int]) (.and (.cmp .eq (.isa (.var 0) true [.bool]) (.isa (.var 1) true [.bool])) (.cmp .eq (.var 0) (.var 1)))))
  .nil) .nil)
  (.cons (.ite (.cmp .is (.var 1) .non) (.cons (.ret (.cmp .is (.var 0) .non))
  .nil) .nil)
  (.cons (.ite (.isa (.var 1) true [.str]) (.cons (.ret (.and (.isa (.var 0) true [.str]) (.cmp .eq (.var 0) (.var 1))))
  .nil) .nil)
  (.cons (.ret (.and (.not (.isa (.var 0) false [.int, .str, .list, .tuple, .dict])) (.cmp .eq (.var 0) (.var 1))))
  .nil))))))
/-- _law_each_once -/
def b111 : B := (.cons (.asg 1 (.lst .nil))
  (.cons (.forS (.nm 2) (.seq (.var 0)) (.cons (.ite (.cmp .notin (.var 2) (.var 1)) (.cons (.ex (.meth .append (.var 1) (.cons (.var 2) .nil)))
  .nil) .nil)
  .nil))
  (.cons (.ret (.var 1))
  .nil)))
/-- _law_loose -/
def b296 : B := (.cons (.ite (.isa (.var 1) true [.dict]) (.cons (.ret (.dctE (.lc (.tup (.cons (.var 4) (.cons (.call 296 (.cons (.var 0) (.cons (.sub (.var 1) (.var 4)) .nil))) .nil))) (.nm 4) (.seq (.call 344 (.cons (.var 0) (.cons (.lstE (.var 1)) .nil)))) [4])))
  .nil) .nil)
  (.cons (.ite (.not (.isa (.var 1) false [.list, .tuple])) (.cons (.ret (.var 1))
  .nil) .nil)
  (.cons (.asg 2 (.lc (.call 296 (.cons (.var 0) (.cons (.var 3) .nil))) (.nm 3) (.seq (.var 1)) [3]))
  (.cons (.ret (.ite (.cmp .eq (.call 109 (.cons (.var 0) (.cons (.int 3) .nil))) (.int 0)) (.var 2) (.tupE (.var 2))))
  .nil))))
/-- _law_spoilt -/
def b527 : B := (.cons (.ite (.isa (.var 0) true [.dict]) (.cons (.forS (.nm 1) (.seq (.lstE (.var 0))) (.cons (.ex (.call 527 (.cons (.sub (.var 0) (.var 1)) .nil)))
  .nil))
  (.cons (.setix (.var 0) (.str "late9") (.bin .add (.meth .get2 (.var 0) (.cons (.str "late9") (.cons (.int 0) .nil))) (.int 1)))
  .nil)) .nil)
  (.cons (.ite (.isa (.var 0) false [.list, .tuple]) (.cons (.forS (.nm 2) (.seq (.var 0)) (.cons (.ex (.call 527 (.cons (.var 2) .nil)))
  .nil))
  .nil) .nil)
  (.cons (.ite (.isa (.var 0) true [.list]) (.cons (.ex (.meth .append (.var 0) (.cons (.str "late9") .nil)))
  .nil) .nil)
  .nil)))
/-- _law_is_once -/
def b155 : B := (.cons (.ite (.isa (.var 0) true [.dict]) (.cons (.ret (.and (.cmp .eq (.sub (.var 0) (.str "late9")) (.int 1)) (.blt .all (.cons (.lock 0 (.lcf (.call 155 (.cons (.sub (.var 0) (.var 2)) .nil)) (.nm 2) (.keys (.var 0)) (.cmp .ne (.var 2) (.str "late9")) [2])) .nil))))
  .nil) .nil)
  (.cons (.ite (.isa (.var 0) false [.list, .tuple]) (.cons (.asg 1 (.blt .int (.cons (.isa (.var 0) true [.list]) .nil)))
  (.cons (.ret (.and (.cmp .eq (.meth .count (.lstE (.var 0)) (.cons (.str "late9") .nil)) (.var 1)) (.blt .all (.cons (.lc (.call 155 (.cons (.var 3) .nil)) (.nm 3) (.seq (.var 0)) [3]) .nil))))
  .nil)) .nil)
  (.cons (.ret (.bl true))
  .nil)))
/-- _law_apart -/
def b28 : B := (.cons (.ex (.call 527 (.cons (.var 0) .nil)))
  (.cons (.ret (.call 155 (.cons (.var 0) .nil)))
  .nil))
/-- _law_done_right -/
def b108 : B := (.cons (.asg 2 (.call 296 (.cons (.var 0) (.cons (.lc (.call 296 (.cons (.var 0) (.cons (.var 13) .nil))) (.nm 13) (.seq (.var 1)) [13]) .nil))))
  (.cons (.asg 3 (.call 101 (.cons (.var 2) .nil)))
  (.cons (.asgT (.cons (.nm 4) (.cons (.nm 5) .nil)) (.call 209 (.cons (.lst (.cons (.int 0) (.cons (.int 0) (.cons (.int 0) (.cons (.int 0) .nil))))) (.cons (.var 1) .nil))))
  (.cons (.asg 6 (.lst (.cons (.call 1168 (.cons (.var 2) .nil)) (.cons (.call 679 (.cons (.var 2) .nil)) (.cons (.callk 1168 (.cons (.call 101 (.cons (.var 1) .nil)) .nil) [0]) .nil)))))
  (.cons (.ex (.meth .append (.var 6) (.cons (.callk 679 (.cons (.call 101 (.cons (.var 1) .nil)) .nil) [0]) .nil)))
  (.cons (.asg 7 (.lc (.var 12) (.tp (.cons (.nm 11) (.cons (.nm 12) .nil))) (.seq (.var 5)) [11, 12]))
  (.cons (.ite (.or (.not (.call 491 (.cons (.bin .add (.var 6) (.lst (.cons (.var 2) .nil))) (.cons (.lst (.cons (.var 4) (.cons (.var 7) (.cons (.var 4) (.cons (.var 7) (.cons (.var 3) .nil)))))) .nil)))) (.not (.call 28 (.cons (.var 6) .nil)))) (.cons (.ret (.bl false))
  .nil) .nil)
  (.cons (.forS (.nm 8) (.seq (.call 111 (.cons (.lst (.cons (.int 0) (.cons (.int 1) (.cons (.blt .len (.cons (.var 1) .nil)) (.cons (.bin .add (.blt .len (.cons (.var 1) .nil)) (.int 3)) (.cons (.call 109 (.cons (.var 0) (.cons (.int 9) .nil))) .nil)))))) .nil))) (.cons (.asg 9 (.sl (.var 5) (.blt .max2 (.cons (.int 0) (.cons (.bin .sub (.blt .len (.cons (.var 5) .nil)) (.var 8)) .nil))) .non))
  (.cons (.asg 10 (.lst (.cons (.call 1173 (.cons (.var 2) (.cons (.var 8) .nil))) (.cons (.callk 1173 (.cons (.var 8) (.cons (.call 101 (.cons (.var 1) .nil)) .nil)) [1, 0]) .nil))))
  (.cons (.ite (.or (.not (.call 491 (.cons (.bin .add (.var 10) (.lst (.cons (.var 2) .nil))) (.cons (.lst (.cons (.var 9) (.cons (.var 9) (.cons (.var 3) .nil)))) .nil)))) (.not (.call 28 (.cons (.var 10) .nil)))) (.cons (.ret (.bl false))
  .nil) .nil)
  .nil))))
  (.cons (.ret (.bl true))
  .nil)))))))))
/-- _law_exchanged_right -/
def b114 : B := (.cons (.forS (.nm 1) (.rng1 (.bin .sub (.blt .len (.cons (.var 0) .nil)) (.int 1))) (.cons (.asgP [2, 3] (.cons (.sub (.var 0) (.var 1)) (.cons (.sub (.var 0) (.bin .add (.var 1) (.int 1))) .nil)))
  (.cons (.ite (.cmp .ne (.sub (.sub (.var 2) (.int 1)) (.int 1)) (.sub (.sub (.var 3) (.int 1)) (.int 1))) (.cons (.asg 4 (.bin .add (.bin .add (.sl (.var 0) .non (.var 1)) (.lst (.cons (.var 3) (.cons (.var 2) .nil)))) (.sl (.var 0) (.bin .add (.var 1) (.int 2)) .non)))
  (.cons (.asg 5 (.lst (.cons (.call 679 (.cons (.call 101 (.cons (.var 0) .nil)) .nil)) (.cons (.call 679 (.cons (.call 101 (.cons (.var 4) .nil)) .nil)) .nil))))
  (.cons (.asg 6 (.bin .add (.bin .add (.sl (.sub (.var 5) (.int 1)) .non (.var 1)) (.lst (.cons (.sub (.sub (.var 5) (.int 1)) (.bin .add (.var 1) (.int 1))) (.cons (.sub (.sub (.var 5) (.int 1)) (.var 1)) .nil)))) (.sl (.sub (.var 5) (.int 1)) (.bin .add (.var 1) (.int 2)) .non)))
  (.cons (.ite (.or (.cmp .ne (.sub (.var 5) (.int 0)) (.var 6)) (.cmp .ne (.call 1168 (.cons (.call 101 (.cons (.var 4) .nil)) .nil)) (.call 1168 (.cons (.call 101 (.cons (.var 0) .nil)) .nil)))) (.cons (.ret (.bl false))
  .nil) .nil)
  .nil)))) .nil)
  .nil)))
  (.cons (.ret (.bl true))
  .nil))
/-- law -/
def b922 : B := (.cons (.asg 1 (.call 529 (.cons (.var 0) .nil)))
  (.cons (.forS (.nm 2) (.rng1 (.int 10)) (.cons (.asg 5 (.call 222 (.cons (.var 1) (.cons (.int 14) .nil))))
  (.cons (.ite (.or (.not (.call 108 (.cons (.var 1) (.cons (.var 5) .nil)))) (.not (.call 114 (.cons (.var 5) .nil)))) (.cons (.ret (.bl false))
  .nil) .nil)
  (.cons (.forS (.nm 6) (.seq (.tup (.cons .non (.cons (.int 5) (.cons (.str "ab") (.cons (.dct .nil) (.cons (.bl true) .nil))))))) (.cons (.asg 4 (.lst (.cons (.met 216 (.call 1168 (.cons (.var 6) .nil))) .nil)))
  (.cons (.ex (.meth .append (.var 4) (.cons (.met 216 (.call 679 (.cons (.var 6) .nil))) .nil)))
  (.cons (.ex (.meth .append (.var 4) (.cons (.met 216 (.call 1173 (.cons (.var 6) (.cons .non .nil)))) .nil)))
  (.cons (.ite (.not (.call 491 (.cons (.var 4) (.cons (.bin .mul (.lst (.cons (.tup (.cons (.str "records") (.cons (.int 0) .nil))) .nil)) (.int 3)) .nil)))) (.cons (.ret (.bl false))
  .nil) .nil)
  .nil)))))
  (.cons (.asg 7 (.call 109 (.cons (.var 1) (.cons (.bin .add (.blt .len (.cons (.var 5) .nil)) (.int 1)) .nil))))
  (.cons (.forS (.nm 6) (.seq (.call 219 .nil)) (.cons (.asg 8 (.bin .add (.bin .add (.sl (.var 5) .non (.var 7)) (.lst (.cons (.call 101 (.cons (.var 6) .nil)) .nil))) (.sl (.var 5) (.var 7) .non)))
  (.cons (.asg 4 (.lst (.cons (.met 216 (.call 1168 (.cons (.call 101 (.cons (.var 8) .nil)) .nil))) .nil)))
  (.cons (.ex (.meth .append (.var 4) (.cons (.met 216 (.call 679 (.cons (.call 101 (.cons (.var 8) .nil)) .nil))) .nil)))
  (.cons (.ex (.meth .append (.var 4) (.cons (.met 216 (.call 1173 (.cons (.call 101 (.cons (.var 8) .nil)) (.cons .non .nil)))) .nil)))
  (.cons (.ite (.not (.call 491 (.cons (.var 4) (.cons (.bin .mul (.lst (.cons (.tup (.cons (.str "records") (.cons (.var 7) .nil))) .nil)) (.int 3)) .nil)))) (.cons (.ret (.bl false))
  .nil) .nil)
  .nil))))))
  (.cons (.forS (.nm 6) (.seq (.tup (.cons .non (.cons (.bin .sub (.int 0) (.int 1)) (.cons (.bl true) (.cons (.str "1") (.cons (.lst (.cons (.int 1) .nil)) (.cons (.dct .nil) .nil)))))))) (.cons (.ite (.not (.call 491 (.cons (.met 216 (.call 1173 (.cons (.call 101 (.cons (.var 5) .nil)) (.cons (.call 101 (.cons (.var 6) .nil)) .nil)))) (.cons (.tup (.cons (.str "many") (.cons (.var 6) .nil))) .nil)))) (.cons (.ret (.bl false))
  .nil) .nil)
  .nil))
  .nil)))))))
  (.iso (.cons (.asg 3 (.lc (.tup (.cons (.int 1) (.cons (.tup (.cons (.str "add") (.cons (.int 0) (.cons (.int 255) .nil)))) .nil))) (.nm 9) (.rng1 (.int 40)) [9]))
  (.cons (.asg 4 (.lst (.cons (.call 1168 (.cons (.bin .mul (.var 3) (.int 7)) .nil)) (.cons (.call 679 (.cons (.lst (.cons (.tup (.cons (.int 1) (.cons (.tup (.cons (.str "add") (.cons (.int 0) (.cons (.int 5) .nil)))) .nil))) (.cons (.tup (.cons (.int 2) (.cons (.tup (.cons (.str "get") (.cons (.int 0) .nil))) .nil))) .nil))) .nil)) .nil))))
  (.cons (.ex (.meth .append (.var 4) (.cons (.call 1173 (.cons (.lst (.cons (.tup (.cons (.int 1) (.cons (.tup (.cons (.str "add") (.cons (.int 0) (.cons (.int 5) .nil)))) .nil))) (.cons (.tup (.cons (.int 2) (.cons (.tup (.cons (.str "get") (.cons (.int 0) .nil))) .nil))) .nil))) (.cons (.int 1) .nil))) .nil)))
  (.cons (.ret (.call 491 (.cons (.var 4) (.cons (.lst (.cons (.lst (.cons (.bin .mod (.blt .int (.cons (.bin .mul (.int 255) (.int 280)) .nil)) (.int 65536)) (.cons (.int 0) (.cons (.int 0) (.cons (.int 0) .nil))))) (.cons (.lst (.cons (.int 5) (.cons (.int 5) .nil))) (.cons (.lst (.cons (.tup (.cons (.int 2) (.cons (.int 5) .nil))) .nil)) .nil)))) .nil))))
  .nil)))))))
def tab : Tab where
  recs := [
    ⟨856, dAt 12, ["thing"], ["thing"], b856, false, []⟩,
    ⟨848, dAt 13, ["thing"], ["thing"], b848, false, []⟩,
    ⟨864, dAt 14, ["thing"], ["thing"], b864, false, []⟩,
    ⟨852, dAt 16, ["thing"], ["thing"], b852, false, []⟩,
    ⟨875, dAt 17, ["thing"], ["thing"], b875, false, []⟩,
    ⟨1190, dAt 18, ["record"], ["record"], b1190, false, []⟩,
    ⟨913, dAt 19, ["records", "index", "record"], ["records"], b913, false, []⟩,
    ⟨792, dAt 21, ["sums", "request", "later"], ["sums", "request"], b792, false, []⟩,
    ⟨791, dAt 22, ["sums", "rows", "pairs", "number", "request", "answer"], ["sums", "rows"], b791, false, []⟩,
    ⟨917, dAt 23, ["pairs", "many"], ["pairs", "many"], b917, false, []⟩,
    ⟨912, dAt 24, ["many"], ["many"], b912, false, []⟩,
    ⟨1168, dAt 25, ["records"], ["records"], b1168, false, [(["records"], [0])]⟩,
    ⟨679, dAt 26, ["records", "number", "answer"], ["records"], b679, false, [(["records"], [0])]⟩,
    ⟨1173, dAt 27, ["records", "many", "rows"], ["records", "many"], b1173, false, [(["many", "records"], [1, 0])]⟩,
    ⟨223, dAt 30, ["stream", "slot"], ["stream"], b223, false, []⟩,
    ⟨222, dAt 31, ["stream", "many", "k"], ["stream", "many"], b222, false, []⟩,
    ⟨212, dAt 32, ["sums", "request", "later"], ["sums", "request"], b212, false, []⟩,
    ⟨209, dAt 33, ["sums", "records", "pairs", "number", "request", "answer"], ["sums", "records"], b209, false, []⟩,
    ⟨219, dAt 34, ["found"], [], b219, false, []⟩,
    ⟨529, dAt 35, ["script"], ["script"], b529, false, []⟩,
    ⟨109, dAt 36, ["stream", "many", "mixed", "cell", "digit"], ["stream", "many"], b109, false, []⟩,
    ⟨431, dAt 37, ["stream", "some"], ["stream", "some"], b431, false, []⟩,
    ⟨344, dAt 38, ["stream", "some", "left", "k"], ["stream", "some"], b344, false, []⟩,
    ⟨101, dAt 39, ["thing", "found", "part", "key"], ["thing"], b101, false, []⟩,
    ⟨491, dAt 40, ["found", "due", "x", "y"], ["found", "due"], b491, false, []⟩,
    ⟨111, dAt 41, ["things", "found", "thing"], ["things"], b111, false, []⟩,
    ⟨296, dAt 42, ["stream", "thing", "found", "part", "key"], ["stream", "thing"], b296, false, []⟩,
    ⟨527, dAt 43, ["thing", "key", "part"], ["thing"], b527, false, []⟩,
    ⟨155, dAt 44, ["thing", "many", "key", "part"], ["thing"], b155, false, []⟩,
    ⟨28, dAt 45, ["thing"], ["thing"], b28, false, []⟩,
    ⟨108, dAt 46, ["stream", "records", "passed", "was", "sums", "pairs", "found", "answers", "many", "due", "told", "number", "answer", "record"], ["stream", "records"], b108, false, []⟩,
    ⟨114, dAt 47, ["records", "at", "one", "two", "other", "told", "turned"], ["records"], b114, false, []⟩,
    ⟨922, dAt 48, ["script", "stream", "time", "many", "found", "records", "odd", "at", "some", "k"], ["script"], b922, true, []⟩]
  clss := [⟨2, "BadBits", [0], dIn 2, ["self", "thing"]⟩,
    ⟨5, "BadCheck", [0], dIn 3, ["self", "thing"]⟩,
    ⟨13, "BadKeeper", [0], dIn 4, ["self", "thing"]⟩,
    ⟨18, "BadMany", [0], dIn 5, ["self", "thing"]⟩,
    ⟨28, "BadRecord", [0], dIn 6, ["self", "thing"]⟩,
    ⟨29, "BadRecords", [2], dIn 7, ["self", "index"]⟩,
    ⟨35, "BadSchedule", [3], dIn 8, ["self", "fault"]⟩,
    ⟨36, "BadSend", [0], dIn 9, ["self", "thing"]⟩,
    ⟨38, "BadSnapshot", [0], dIn 10, ["self", "thing"]⟩]
  mets := [⟨216, dAt 29, "told", [(28, "record", .fld 0), (29, "records", .fld 2), (2, "bits", .fld 0), (5, "check", .fld 0), (18, "many", .fld 0), (38, "snapshot", .fld 0), (13, "keeper", .fld 0), (35, "schedule", .fld 3), (36, "send", .fld 0)], ["query", "e"], "query"⟩]
  flds := ["thing", "name", "index", "fault", "line", "sign", "end", "question", "why", "own_parts", "own_rows"]

theorem okr : tab.recs.all (FRec.ok tab) = true := by kernel_rfl
theorem okc : tab.clss.all (CRec.ok tab) = true := by kernel_rfl
theorem okm : tab.mets.all (MRec.ok tab) = true := by kernel_rfl
theorem okT : tab.ok = true := by
  unfold Tab.ok
  rw [okr, okc]
  kernel_rfl
end L33

set_option Elab.async false
set_option linter.all false
set_option maxRecDepth 100000
set_option maxHeartbeats 0
namespace L33
open PySem PySem.Spec PyProof.Rows L2 AH
abbrev R : PySem.W.OpenRow := PySem.W.OpenLaw.row PySem.Challenge.rw_sentjustonce_k33_whole_sums_and_tables
def loose : List Str := (["BadBits", "BadCheck", "BadKeeper", "BadMany", "BadRecord", "BadRecords", "BadSchedule", "BadSend", "BadSnapshot", "SendError", "_law_apart", "_law_copied", "_law_done_right", "_law_draw", "_law_each_once", "_law_exchanged_right", "_law_is_once", "_law_kee_all", "_law_kee_done", "_law_kee_met"] : List Str) ++ (["_law_kee_odd_records", "_law_kee_records", "_law_kee_request", "_law_loose", "_law_mixed", "_law_pick", "_law_same", "_law_spoilt", "_law_start", "answers_of", "done_all", "done_by", "is_integer", "is_kept_request", "is_list", "is_number", "is_record", "known_many", "known_records", "last_ones"] : List Str) ++ (["sums_after", "table_behind", "told_pair"] : List Str)
theorem run (w : World) : HandSHeadRun.RunEq R (PySem.W.view R.prog [48]) (hookL tab 4) (obT tab 4) 4000 loose w := by
  intro os
  kernel_rfl
end L33

set_option Elab.async false
set_option linter.all false
set_option maxRecDepth 100000
set_option maxHeartbeats 0
namespace L33
open PySem AH
def tailOf : B → B
  | .cons _ (.cons _ (.iso b)) => b
  | _ => .nil
def isT : SRs → Bool
  | .rt (.bl true) _ => true
  | _ => false
theorem isT_eq : ∀ {r : SRs}, isT r = true → ∃ h, r = .rt (.bl true) h
  | .rt (.bl true) h, _ => ⟨h, rfl⟩
  | .rt (.bl false) _, e => by simp [isT] at e
  | .rt (.int _) _, e => by simp [isT] at e
  | .rt (.str _) _, e => by simp [isT] at e
  | .rt (.ref _) _, e => by simp [isT] at e
  | .rt .non _, e => by simp [isT] at e
  | .nx _ _, e => by simp [isT] at e
  | .ex _ _ _, e => by simp [isT] at e
  | .no, e => by simp [isT] at e
theorem tail_ok (z : Int) : isT (evB ⟨tab.prog, AH.run tab.prog 1000 29, 1000⟩ (tailOf b922) [none, none, some (.int 9), none, none, none, none, some (.int z), none, none] AHp.emp) = true := by kernel_rfl
theorem hasP : HasP tab.prog where
  h109 := by unfold Has; kernel_rfl
  h431 := fun _ => by unfold Has; kernel_rfl
  h344 := fun _ => by unfold Has; kernel_rfl
  h101 := fun _ => by unfold Has; kernel_rfl
  h491 := fun _ => by unfold Has; kernel_rfl
  h296 := fun _ => ⟨by unfold Has; kernel_rfl, by unfold Has; kernel_rfl⟩
  h28 := fun _ => ⟨by unfold Has; kernel_rfl, by unfold Has; kernel_rfl, by unfold Has; kernel_rfl⟩
theorem has : HasK9 tab.prog where
  h856 := by unfold Has; kernel_rfl
  h848 := by unfold Has; kernel_rfl
  h864 := by unfold Has; kernel_rfl
  h852 := by unfold Has; kernel_rfl
  h875 := by unfold Has; kernel_rfl
  h1190 := by unfold Has; kernel_rfl
  h913 := by unfold Has; kernel_rfl
  c29 := by kernel_rfl
  h792 := by unfold Has; kernel_rfl
  h791 := by unfold Has; kernel_rfl
  h917 := by unfold Has; kernel_rfl
  h912 := by unfold Has; kernel_rfl
  h1168 := by unfold Has; kernel_rfl
  h679 := by unfold Has; kernel_rfl
  h1173 := by unfold Has; kernel_rfl
  c18 := by kernel_rfl
  s109 := by kernel_rfl
  s431 := by kernel_rfl
  s101 := by kernel_rfl
  s491 := by kernel_rfl
  s296 := by kernel_rfl
  s28 := by kernel_rfl
  h111 := by unfold Has; kernel_rfl
  h108 := by unfold Has; kernel_rfl
  h209 := by unfold Has; kernel_rfl
  h212 := by unfold Has; kernel_rfl
  h222 := by unfold Has; kernel_rfl
  h223 := by unfold Has; kernel_rfl
  h114 := by unfold Has; kernel_rfl
  h219 := by unfold Has; kernel_rfl
  m216 := by kernel_rfl
theorem plain (ns : List Int) (h1 : ns.length ≤ 63) (h2 : ∀ z ∈ ns, Builtin.Int.intBits z ≤ 1048576) : ∃ h', AH.run tab.prog 1000 30 922 [.ref 0] (scrH ns) = .ok (.bl true) h' := by
  have := law_val (P := tab.prog) (F := 1000) (d := 28) (fl := 922) (n := 10) (tl := law33 (tailOf b922)) (ns := ns) hasP (by decide) (by unfold Has; kernel_rfl) (by unfold Has; kernel_rfl) (by decide) (by omega) (w_law33 (d := 16) has fun z => isT_eq (tail_ok z))
  generalize AH.run tab.prog 1000 30 922 [.ref 0] (scrH ns) = r at this
  cases r with
  | ok v h => exact ⟨h, by rw [show v = .bl true from this]⟩
  | ex c fs h => exact this.elim
  | no => exact this.elim
end L33

set_option Elab.async false
set_option linter.all false
set_option maxRecDepth 100000
set_option maxHeartbeats 0
open PySem PySem.Spec PyProof.Rows L2 AH
open PySem PySem.W PySem.Calls PyProof.Rows
theorem PySem.Challenge.cw_sentjustonce_k33_whole_sums_and_tables_holds : PySem.Challenge.rw_sentjustonce_k33_whole_sums_and_tables.Holds := by
  w_on; o_law
  refine HandSHeadRun.head_any (r := OpenLaw.row PySem.Challenge.rw_sentjustonce_k33_whole_sums_and_tables) (q := PySem.W.view L33.R.prog [48]) (H := AH.hookL L33.tab 4) (ob := AH.obT L33.tab 4) (M := 4000) (loose := L33.loose) (kwd := []) (AH.obT_eq L33.tab 4) (by kernel_rfl) (fun s => by kernel_rfl) L33.run (by rfl) (by rfl) (by rfl) (by rfl) (by first | assumption | decide +kernel) (by decide +kernel) ⟨rfl, rfl, rfl, rfl, rfl, by decide +kernel⟩ ?hw ?hc
  case hw => w_witness2
  case hc =>
    refine AH.walk_law (T := L33.tab) (l := PySem.Challenge.rw_sentjustonce_k33_whole_sums_and_tables) (n := 63) (d := 30) (fl := 922) (F_ := 1000) (x := "script") L33.okT (by rfl) (by decide) (by kernel_rfl) ⟨rfl, by decide, by decide⟩ (by kernel_rfl) (by kernel_rfl) (by kernel_rfl) (fun w mg K h base S hK hb f told hs hf => AH.met_of L33.okm S hK hb f told hs hf) L33.plain
