import PyProof.Rows.All
import Wide.All
import OpenK.AllK
import Wide.FinOn
import HandS.ForMost
import HandS.ForExc
import HandS.TupAny
import HandS.TupMul
import HandS.Conv
import HandS.IsInst
import HandS.Zip
import HandS.Text
import KE.DataAny
import KE.DataMinMax
import KE.SortData
import KE.KRevSl
import KE.DatumOrd
import KE.DataCmp
import KE.DataEq
import KE.GoesMore
import KE.GoesComp
import KE.GoesEnum
import PyProof.EnumMake
import KE.KTupSum
import KE.GoesZip
import HandS.HotCalls
import HandS.ExcIs
import PyProof.StrOps2
import HandS.ExcCtx
import HandS.WordsExc
import HandS.Comp
import HandS.Conv
import HandS.Dict
import HandS.TupSets
import KE.KDictSum
import PySem.Challenge.RW_sandyard_k03_whole_read
set_option linter.all false
set_option Elab.async false
set_option maxRecDepth 99999
set_option maxHeartbeats 4400000
/-! Dn: what the defs of a text compute, over plain data alone (no heap). -/
namespace Dn
open PySem

abbrev D := PyData
/-- an answer: a value, or an exception's class -/
inductive Rs (α : Type) where
  | ok (a : α)
  | exc (c : Str)
/-- none: not told -/
abbrev M (α : Type) := Option (Rs α)
def bnd {α β : Type} (x : M α) (k : α → M β) : M β := match x with
  | some (.ok a) => k a
  | some (.exc c) => some (.exc c)
  | none => none
@[simp] theorem bnd_ok {α β : Type} (a : α) (k : α → M β) : bnd (some (.ok a)) k = k a := rfl
@[simp] theorem bnd_exc {α β : Type} (c : Str) (k : α → M β) : bnd (some (.exc c)) k = some (.exc c) := rfl
@[simp] theorem bnd_none {α β : Type} (k : α → M β) : bnd none k = none := rfl
def ret {α : Type} (a : α) : M α := some (.ok a)
def lft {α : Type} (x : Option α) : M α := x.map .ok
@[simp] theorem lft_some {α : Type} (a : α) : lft (some a) = some (.ok a) := rfl
@[simp] theorem lft_none {α : Type} : lft (none : Option α) = none := rfl

inductive Sl where
  | dat (d : D)
  | own (ds : List D)
  | ownT (kvs : List (List Int × D))
  | frzT (kvs : List (List Int × D))
abbrev Env := List (Option Sl)
inductive SOut where
  | nx (ρ : Env) | rt (d : D) | bk (ρ : Env) | ct (ρ : Env) | exc (c : Str)
abbrev EF := Env → M D
abbrev AF := Env → M (List D)
abbrev TF := Env → M Bool
abbrev SF := Env → Option SOut
abbrev GF := D → Env → Option Env
abbrev FF := List D → M D

/-! ### operators -/
def addD : D → D → Option D
  | .int a, .int b => some (.int (a + b))
  | .str a, .str b => if a.length + b.length ≤ sizeLine then some (.str (a ++ b)) else none
  | .tuple a, .tuple b => if a.length + b.length ≤ sizeLine then some (.tuple (a ++ b)) else none
  | .list a, .list b => if a.length + b.length ≤ sizeLine then some (.list (a ++ b)) else none
  | _, _ => none
def subD : D → D → Option D
  | .int a, .int b => some (.int (a - b))
  | _, _ => none
def smallI (i : Int) : Bool := decide (-(2 ^ 64) < i) && decide (i < 2 ^ 64)
def repL {α : Type} (k : Nat) (xs : List α) : List α := (List.replicate k xs).flatten
def mulD : D → D → Option D
  | .int a, .int b => if smallI a || smallI b then some (.int (a * b)) else none
  | .tuple a, .int k => if 1 ≤ k ∧ k ≤ 1000 ∧ a.length ≤ 1000 ∧ a ≠ [] then some (.tuple (repL k.toNat a)) else none
  | _, _ => none
def modD : D → D → Option D
  | .int a, .int b => if 0 < b then some (.int (a % b)) else none
  | _, _ => none
def fdivD : D → D → Option D
  | .int a, .int b => if 0 < b ∧ b < 1073741824 then some (.int (a / b)) else none
  | _, _ => none
def powD : D → D → Option D
  | .int a, .int b => if 0 ≤ b ∧ b ≤ 1000 ∧ a.natAbs < 2 ^ 64 then some (.int (a ^ b.toNat)) else none
  | _, _ => none
def negD : D → Option D
  | .int a => some (.int (-a))
  | _ => none
/-- data that the comparisons take -/
def okD (d : D) : Bool := d.plain && decide (d.depth ≤ 50)
def eqD (a b : D) : Option D := if okD a && okD b then some (.bool (PyData.eqv a b)) else none
def neD (a b : D) : Option D := if okD a && okD b then some (.bool (!PyData.eqv a b)) else none
def cmpOk (a b : D) : Bool := PySem.W.alike a b && decide (min a.depth b.depth ≤ 50) && (match a with | .none => false | _ => true)
def ltD (a b : D) : Option D := if cmpOk a b then some (.bool (PySem.W.dataLt a b)) else none
def gtD (a b : D) : Option D := if cmpOk a b then some (.bool (PySem.W.dataLt b a)) else none
def leD (a b : D) : Option D := if cmpOk a b then some (.bool (!PySem.W.dataLt b a)) else none
def geD (a b : D) : Option D := if cmpOk a b then some (.bool (!PySem.W.dataLt a b)) else none
def inD : D → D → Option D
  | x, .list xs => if PyData.plainAll xs && okD x then some (.bool (xs.any fun y => PyData.eqv y x)) else none
  | x, .tuple xs => if PyData.plainAll xs && okD x then some (.bool (xs.any fun y => PyData.eqv y x)) else none
  | .str i, .str j => some (.bool (!(Builtin.Str.occurrences j i 0 j.length 1).isEmpty))
  | _, _ => none
def notD : D → Option D
  | .bool b => some (.bool (!b))
  | _ => none
def inN (x y : D) : Option D := (inD x y).bind notD
def isNonD : D → Option D
  | .none => some (.bool true)
  | .bool _ | .int _ | .str _ | .list _ | .tuple _ => some (.bool false)
  | _ => none
def seqOf : D → Option (List D)
  | .list xs => some xs
  | .tuple xs => some xs
  | _ => none
def lstOf : D → Option (List D)
  | .list xs => some xs
  | _ => none
def lenD : D → Option D
  | .list xs => some (.int xs.length)
  | .tuple xs => some (.int xs.length)
  | .str x => if x.length ≤ sizeLine then some (.int x.length) else none
  | _ => none
def intsOf : List D → Option (List Int)
  | [] => some []
  | .int i :: r => (intsOf r).map (i :: ·)
  | _ => none
def boolsOf : List D → Option (List Bool)
  | [] => some []
  | .bool i :: r => (boolsOf r).map (i :: ·)
  | _ => none
def strsOf : List D → Option (List Str)
  | [] => some []
  | .str i :: r => (strsOf r).map (i :: ·)
  | _ => none
def sumD (d : D) : Option D := (lstOf d).bind fun xs => (intsOf xs).map fun ns => .int ns.sum
def allD (d : D) : Option D := (lstOf d).bind fun xs => (boolsOf xs).map fun bs => .bool (bs.all id)
def anyD (d : D) : Option D := (lstOf d).bind fun xs => (boolsOf xs).map fun bs => .bool (bs.any id)
def maxL : List Int → Option Int
  | [] => none
  | x :: r => some (r.foldl max x)
def minL : List Int → Option Int
  | [] => none
  | x :: r => some (r.foldl min x)
def max1D (d : D) : Option D := (lstOf d).bind fun xs => (intsOf xs).bind fun ns => (maxL ns).map .int
def min1D (d : D) : Option D := (lstOf d).bind fun xs => (intsOf xs).bind fun ns => (minL ns).map .int
def max2D : D → D → Option D
  | .int a, .int b => some (.int (if b > a then b else a))
  | _, _ => none
def min2D : D → D → Option D
  | .int a, .int b => some (.int (if b < a then b else a))
  | _, _ => none
def intD : D → Option D
  | .int a => some (.int a)
  | .bool b => some (.int (if b then 1 else 0))
  | .str x => if x.length ≤ 640 then (PySem.intText? x).map .int else none
  | _ => none
def strD : D → Option D
  | .int a => if a.natAbs.log2 < 1920 then some (.str (toString a)) else none
  | _ => none
def tupD (d : D) : Option D := (seqOf d).map .tuple
def lstD (d : D) : Option D := (seqOf d).map .list
/-- 0 int, 1 bool, 2 tuple, 3 str -/
def isiD (k : Nat) : D → Option D
  | .none => some (.bool false)
  | .bool _ => some (.bool (k == 0 || k == 1))
  | .int _ => some (.bool (k == 0))
  | .str _ => some (.bool (k == 3))
  | .list _ => some (.bool false)
  | .tuple _ => some (.bool (k == 2))
  | .dict _ => none
def ixNat (n : Nat) (i : Int) : Option Nat := if 0 ≤ i then (if i < n then some i.toNat else none) else if -(n : Int) ≤ i then some (i + n).toNat else none
def ixD : D → D → Option D
  | .list xs, .int i => (ixNat xs.length i).bind fun j => xs[j]?
  | .tuple xs, .int i => (ixNat xs.length i).bind fun j => xs[j]?
  | .str z, .int i => if z.length ≤ sizeLine then (ixNat z.cps.toList.length i).bind fun j => z.cps.toList[j]?.map fun c => .str ⟨#[c]⟩ else none
  | _, _ => none
/-- a slice's end -/
def sIx (n d : Nat) (o : Option Int) : Nat := HT.sIx n d o
def cutL {α : Type} (xs : List α) (lo hi : Option Int) : List α := (xs.drop (sIx xs.length 0 lo)).take (sIx xs.length xs.length hi - sIx xs.length 0 lo)
def cutD (lo hi : Option Int) : D → Option D
  | .list xs => some (.list (cutL xs lo hi))
  | .tuple xs => some (.tuple (cutL xs lo hi))
  | .str z => if z.length ≤ sizeLine then some (.str (L2.cutS z lo hi)) else none
  | _ => none
def revD : D → Option D
  | .tuple xs => some (.tuple xs.reverse)
  | _ => none
/-- sorted: of like tuples -/
def sortOk (xs : List D) : Bool := (xs.all fun x => xs.all fun y => PySem.W.alike x y) && (xs.all fun x => match x with | .tuple (_ :: _) => true | _ => false) && decide (PyData.depthAll xs ≤ 50) && decide (xs.length ≤ 1000)
def sortL (xs : List D) : List D := xs.mergeSort fun a b => !PySem.W.dataLt b a
def sortD (d : D) : Option D := (lstOf d).bind fun xs => if sortOk xs then some (.list (sortL xs)) else none
def rgL (a b : Int) : List D := (List.range (b - a).toNat).map fun i => .int (a + (i : Nat))
def rgOk (i : Int) : Bool := decide (-1000000 ≤ i) && decide (i ≤ 1000000)
def rangeD : D → D → Option (List D)
  | .int a, .int b => if rgOk a && rgOk b then some (rgL a b) else none
  | _, _ => none
def lrangeD (a b : D) : Option D := (rangeD a b).map .list

/-! ### expressions -/
def eVar (i : Nat) : EF := fun ρ => match ρ[i]? with
  | some (some (.dat d)) => ret d
  | _ => none
def eVarW (i : Nat) : EF := fun ρ => match ρ[i]? with
  | some (some (.dat d)) => ret d
  | some (some (.own ds)) => ret (.list ds)
  | _ => none
def eC (d : D) : EF := fun _ => ret d
def e1 (g : D → Option D) (fa : EF) : EF := fun ρ => bnd (fa ρ) fun a => lft (g a)
def e2 (g : D → D → Option D) (fa fb : EF) : EF := fun ρ => bnd (fa ρ) fun a => bnd (fb ρ) fun b => lft (g a b)
def boolD : D → Option Bool
  | .bool b => some b
  | _ => none
def asB (fa : EF) : TF := fun ρ => bnd (fa ρ) fun a => lft (boolD a)
def eAnd (fa fb : EF) : EF := fun ρ => bnd (asB fa ρ) fun c => if c = true then fb ρ else ret (.bool false)
def eOr (fa fb : EF) : EF := fun ρ => bnd (asB fa ρ) fun c => if c = true then ret (.bool true) else fb ρ
/-- a chain of two comparisons -/
def eChain (g h : D → D → Option D) (fa fb fc : EF) : EF := fun ρ => bnd (fa ρ) fun a => bnd (fb ρ) fun b => bnd (lft ((g a b).bind boolD)) fun c => if c = true then bnd (fc ρ) fun d => lft (h b d) else ret (.bool false)
def tAndF (fa fb : TF) : TF := fun ρ => bnd (fa ρ) fun c => if c = true then fb ρ else ret false
def tOrF (fa fb : TF) : TF := fun ρ => bnd (fa ρ) fun c => if c = true then ret true else fb ρ
def tNotF (fa : TF) : TF := fun ρ => bnd (fa ρ) fun c => ret (!c)
def tYesF : TF := fun _ => ret true
def aNil : AF := fun _ => ret []
def aCons (fa : EF) (fr : AF) : AF := fun ρ => bnd (fa ρ) fun a => bnd (fr ρ) fun r => ret (a :: r)
def eTup (fs : AF) : EF := fun ρ => bnd (fs ρ) fun ds => if ds.length ≤ 1000 then ret (.tuple ds) else none
def eLst (fs : AF) : EF := fun ρ => bnd (fs ρ) fun ds => if ds.length ≤ 1000 then ret (.list ds) else none
def eCall (g : FF) (fs : AF) : EF := fun ρ => bnd (fs ρ) g
/-- [..] * n, a new list -/
def eRep (fa fk : EF) : EF := fun ρ => bnd (fa ρ) fun a => bnd (fk ρ) fun k => lft (match a, k with
  | .list xs, .int k => if 0 ≤ k ∧ k ≤ 1000 ∧ xs.length ≤ 1000 then some (.list (repL k.toNat xs)) else none
  | _, _ => none)
/-- a slice's end -/
def oNo : Env → M (Option Int) := fun _ => ret none
def intOf : D → Option Int
  | .int i => some i
  | _ => none
def oInt (fa : EF) : Env → M (Option Int) := fun ρ => bnd (fa ρ) fun a => bnd (lft (intOf a)) fun i => ret (some i)
def eCut (fa : EF) (fl fh : Env → M (Option Int)) : EF := fun ρ => bnd (fa ρ) fun a => bnd (fl ρ) fun l => bnd (fh ρ) fun h => lft (cutD l h a)
def eJoin (fa fb : EF) : EF := fun ρ => bnd (fa ρ) fun a => bnd (fb ρ) fun b => lft (match a, b with
  | .str z, .list xs => (strsOf xs).bind fun ys => if (ys.map fun y => y.length).sum + ys.length * z.length ≤ 1000000 then some (.str (Txt.join z ys)) else none
  | _, _ => none)

/-! ### what is walked -/
def iSeq (fa : EF) : AF := fun ρ => bnd (fa ρ) fun a => lft (seqOf a)
def iRng1 (fa : EF) : AF := fun ρ => bnd (fa ρ) fun a => lft (rangeD (.int 0) a)
def iRng2 (fa fb : EF) : AF := fun ρ => bnd (fa ρ) fun a => bnd (fb ρ) fun b => lft (rangeD a b)
def zipL : List D → List D → List D
  | x :: xs, y :: ys => .tuple [x, y] :: zipL xs ys
  | _, _ => []
/-- zip of two lists, of two tuples -/
def zipD : D → D → Option (List D)
  | .list xs, .list ys => some (zipL xs ys)
  | .tuple xs, .tuple ys => some (zipL xs ys)
  | _, _ => none
def iZip (fa fb : EF) : AF := fun ρ => bnd (fa ρ) fun a => bnd (fb ρ) fun b => lft (zipD a b)
def enumL : Nat → List D → List D
  | _, [] => []
  | k, x :: xs => .tuple [.int k, x] :: enumL (k + 1) xs
def enumLD : D → Option (List D)
  | .list xs => some (enumL 0 xs)
  | _ => none
def iEnumL (fa : EF) : AF := fun ρ => bnd (fa ρ) fun a => lft (enumLD a)

/-! ### targets -/
def gName (i : Nat) : GF := fun d ρ => some (ρ.set i (some (.dat d)))
def setAll : List Nat → List D → Env → Option Env
  | [], [], ρ => some ρ
  | i :: is, d :: ds, ρ => setAll is ds (ρ.set i (some (.dat d)))
  | _, _, _ => none
def gTup (is : List Nat) : GF := fun d ρ => match d with
  | .tuple ds => setAll is ds ρ
  | _ => none

/-! ### comprehensions -/
def wipe (ρ : Env) : List Nat → Env
  | [] => ρ
  | v :: vs => (wipe ρ vs).set v none
def compL (g : GF) (t : TF) (f : EF) (ρ : Env) : List D → M (List D)
  | [] => ret []
  | d :: ds => match g d ρ with
    | none => none
    | some ρ1 => match t ρ1 with
      | some (.ok true) => (match f ρ1 with
        | some (.ok y) => bnd (compL g t f ρ ds) fun r => ret (y :: r)
        | _ => none)
      | some (.ok false) => compL g t f ρ ds
      | _ => none
def eComp (it : AF) (g : GF) (t : TF) (f : EF) (vs : List Nat) : EF := fun ρ => bnd (it ρ) fun ds => if ds.length ≤ 1000000 then bnd (compL g t f (wipe ρ vs) ds) fun r => ret (.list r) else none

/-! ### statements -/
def sNx : SF := fun ρ => some (.nx ρ)
def sSeq (a b : SF) : SF := fun ρ => match a ρ with
  | some (.nx ρ') => b ρ'
  | x => x
def bS {α : Type} (x : M α) (k : α → Option SOut) : Option SOut := match x with
  | some (.ok a) => k a
  | some (.exc c) => some (.exc c)
  | none => none
@[simp] theorem bS_ok {α : Type} (a : α) (k : α → Option SOut) : bS (some (.ok a)) k = k a := rfl
@[simp] theorem bS_exc {α : Type} (c : Str) (k : α → Option SOut) : bS (some (.exc c)) k = some (.exc c) := rfl
@[simp] theorem bS_none {α : Type} (k : α → Option SOut) : bS none k = none := rfl
@[simp] theorem bS_ret {α : Type} (a : α) (k : α → Option SOut) : bS (ret a) k = k a := rfl
@[simp] theorem bnd_ret {α β : Type} (a : α) (k : α → M β) : bnd (ret a) k = k a := rfl
def sIf (t : TF) (a b : SF) : SF := fun ρ => bS (t ρ) fun c => if c = true then a ρ else b ρ
def sRet (f : EF) : SF := fun ρ => bS (f ρ) fun d => some (.rt d)
/-- return a name that holds a list of one's own -/
def sRetO (i : Nat) : SF := fun ρ => match ρ[i]? with
  | some (some (.own ds)) => some (.rt (.list ds))
  | _ => none
/-- a name or names = e -/
def sAsg (g : GF) (f : EF) : SF := fun ρ => bS (f ρ) fun d => (g d ρ).map .nx
/-- name = a new list, to be changed in place -/
def sOwn (i : Nat) (f : EF) : SF := fun ρ => bS (f ρ) fun d => match d with
  | .list ds => some (.nx (ρ.set i (some (.own ds))))
  | _ => none
/-- name = another name that holds a list of one's own: both stand still from here on -/
def sMove (i j : Nat) : SF := fun ρ => match ρ[j]? with
  | some (some (.own ds)) => some (.nx ((ρ.set j (some (.dat (.list ds)))).set i (some (.dat (.list ds)))))
  | _ => none
def sApp (i : Nat) (f : EF) : SF := fun ρ => match ρ[i]? with
  | some (some (.own ds)) => bS (f ρ) fun d => if ds.length < 1000000 then some (.nx (ρ.set i (some (.own (ds ++ [d]))))) else none
  | _ => none
/-- name.append(another name with a list of one's own) -/
def sAppOwn (i j : Nat) : SF := fun ρ => match ρ[i]?, ρ[j]? with
  | some (some (.own ds)), some (some (.own es)) => if i ≠ j ∧ ds.length < 1000000 then some (.nx ((ρ.set j (some (.dat (.list es)))).set i (some (.own (ds ++ [.list es]))))) else none
  | _, _ => none
def sExt (i : Nat) (f : EF) : SF := fun ρ => match ρ[i]? with
  | some (some (.own ds)) => bS (f ρ) fun d => match d with
    | .list es => if ds.length + es.length ≤ 1000000 then some (.nx (ρ.set i (some (.own (ds ++ es))))) else none
    | _ => none
  | _ => none
/-- name[k] = e -/
def sSetIx (i : Nat) (fk f : EF) : SF := fun ρ => bS (f ρ) fun d => match ρ[i]? with
  | some (some (.own ds)) => bS (fk ρ) fun k => match k with
    | .int z => (ixNat ds.length z).map fun j => .nx (ρ.set i (some (.own (ds.set j d))))
    | _ => none
  | _ => none
def forL (g : GF) (b : SF) : List D → SF
  | [], ρ => some (.nx ρ)
  | d :: ds, ρ => match g d ρ with
    | none => none
    | some ρ1 => match b ρ1 with
      | some (.nx ρ') => forL g b ds ρ'
      | some (.ct ρ') => forL g b ds ρ'
      | some (.bk ρ') => some (.nx ρ')
      | some (.rt d) => some (.rt d)
      | some (.exc c) => some (.exc c)
      | none => none
def sFor (it : AF) (g : GF) (b : SF) : SF := fun ρ => bS (it ρ) fun ds => forL g b ds ρ
def whileN : Nat → TF → SF → SF
  | 0, _, _, _ => none
  | n + 1, c, b, ρ => bS (c ρ) fun t => if t = true then (match b ρ with
      | some (.nx ρ') => whileN n c b ρ'
      | some (.ct ρ') => whileN n c b ρ'
      | some (.bk ρ') => some (.nx ρ')
      | some (.rt d) => some (.rt d)
      | some (.exc e) => some (.exc e)
      | none => none) else some (.nx ρ)
theorem whileN_mono {c : TF} {b : SF} : ∀ {n m : Nat} {ρ : Env} {o : SOut}, whileN n c b ρ = some o → n ≤ m → whileN m c b ρ = some o
  | 0, _, _, _, h, _ => by cases h
  | n + 1, 0, _, _, _, l => absurd l (Nat.not_succ_le_zero n)
  | n + 1, m + 1, ρ, o, h, l => by
    unfold whileN at h ⊢
    cases hc : c ρ with
    | none => rw [hc] at h; cases h
    | some r =>
      rw [hc] at h
      cases r with
      | exc e => exact h
      | ok t =>
        rw [bS_ok] at h ⊢
        cases t with
        | false => exact h
        | true =>
          simp only [if_true] at h ⊢
          cases hb : b ρ with
          | none => rw [hb] at h; cases h
          | some w =>
            rw [hb] at h
            cases w with
            | nx ρ' => exact whileN_mono h (Nat.le_of_succ_le_succ l)
            | ct ρ' => exact whileN_mono h (Nat.le_of_succ_le_succ l)
            | bk ρ' => exact h
            | rt d => exact h
            | exc e => exact h
open Classical in
noncomputable def sWhile (c : TF) (b : SF) : SF := fun ρ => if h : ∃ o, ∃ n, whileN n c b ρ = some o then some h.choose else none
theorem sWhile_of {c : TF} {b : SF} {ρ : Env} {n : Nat} {o : SOut} (h : whileN n c b ρ = some o) : sWhile c b ρ = some o := by
  have hx : ∃ o, ∃ n, whileN n c b ρ = some o := ⟨o, n, h⟩
  unfold sWhile
  rw [dif_pos hx]
  obtain ⟨m, hm⟩ := hx.choose_spec
  have e1 := whileN_mono hm (Nat.le_max_left m n)
  have e2 := whileN_mono h (Nat.le_max_right m n)
  rw [e1] at e2
  exact e2
theorem of_sWhile {c : TF} {b : SF} {ρ : Env} {o : SOut} (h : sWhile c b ρ = some o) : ∃ n, whileN n c b ρ = some o := by
  unfold sWhile at h
  split at h
  · rename_i hx
    have e := Option.some.inj h
    rw [← e]
    exact hx.choose_spec
  · cases h
/-! dicts whose keys are pairs of ints -/
def putT (kvs : List (List Int × D)) (k : List Int) (d : D) : List (List Int × D) :=
  if (kvs.any fun kv => decide (kv.1 = k)) = true then kvs.map (fun kv => if kv.1 = k then (kv.1, d) else kv) else kvs ++ [(k, d)]
def getT (kvs : List (List Int × D)) (k : List Int) : Option D := (kvs.find? fun kv => decide (kv.1 = k)).map (·.2)
def sDictNew (i : Nat) : SF := fun ρ => some (.nx (ρ.set i (some (.ownT []))))
/-- name[a, b] = e -/
def sDictSet (i : Nat) (fa fb f : EF) : SF := fun ρ => bS (f ρ) fun d => match ρ[i]? with
  | some (some (.ownT kvs)) => bS (fa ρ) fun a => bS (fb ρ) fun b => match a, b with
    | .int x, .int y => if kvs.length < 1000 then some (.nx (ρ.set i (some (.ownT (putT kvs [x, y] d))))) else none
    | _, _ => none
  | _ => none
/-- name[a, b], while it is walked -/
def eDictGet (i : Nat) (fa fb : EF) : EF := fun ρ => match ρ[i]? with
  | some (some (.frzT kvs)) => bnd (fa ρ) fun a => bnd (fb ρ) fun b => lft (match a, b with
    | .int x, .int y => getT kvs [x, y]
    | _, _ => none)
  | _ => none
def noFrz (ρ : Env) : Bool := ρ.all fun s => match s with
  | some (.frzT _) => false
  | _ => true
def keysT (kvs : List (List Int × D)) : List D := kvs.map fun kv => .tuple (kv.1.map .int)
/-- for .. in name: the keys -/
def sForKeys (i : Nat) (g : GF) (b : SF) : SF := fun ρ => match ρ[i]? with
  | some (some (.ownT kvs)) => (match forL g b (keysT kvs) (ρ.set i (some (.frzT kvs))) with
    | some (.nx ρ') => if noFrz (ρ'.set i none) then some (.nx (ρ'.set i none)) else none
    | _ => none)
  | _ => none
def sExc (c : Str) : SF := fun _ => some (.exc c)
/-- a def: n parameters, N names -/
def runF (n N : Nat) (b : SF) : FF := fun ds => if ds.length = n then (match b (ds.map (fun d => some (.dat d)) ++ List.replicate (N - n) none) with
  | some (.rt d) => ret d
  | some (.nx _) => ret .none
  | some (.exc c) => some (.exc c)
  | _ => none) else none
def noX (g : FF) : FF := fun ds => match g ds with
  | some (.exc _) => none
  | x => x
/-- exceptions are not told -/
def sNoX (b : SF) : SF := fun ρ => match b ρ with
  | some (.exc _) => none
  | x => x
end Dn

set_option maxHeartbeats 4400000
namespace Dn
def enumAD : D → Option (List D)
  | .list xs => some (enumL 0 xs)
  | .tuple xs => some (enumL 0 xs)
  | _ => none
def iEnumA (fa : EF) : AF := fun ρ => bnd (fa ρ) fun a => lft (enumAD a)
end Dn

set_option maxHeartbeats 4400000
namespace Dn
def noOwn (ρ : Env) : Bool := ρ.all fun s => match s with
  | none => true
  | some (.dat _) => true
  | _ => false
/-- try: b, except c: v is given back -/
def sTry (b : SF) (c : PySem.Str) (v : D) : SF := fun ρ => if noOwn ρ = true then (match b ρ with
  | some (.exc c') => if c' = c then some (.rt v) else none
  | some (.rt d) => some (.rt d)
  | some (.nx ρ') => if noOwn ρ' = true then some (.nx ρ') else none
  | _ => none) else none
/-- an expression alone -/
def sEx (f : EF) : SF := fun ρ => bS (f ρ) fun _ => some (.nx ρ)
end Dn

set_option maxHeartbeats 4400000
namespace Dn
theorem noX_noX (g : FF) : noX (noX g) = noX g := funext fun ds => by
  unfold noX
  cases h : g ds with
  | none => rfl
  | some r =>
    cases r with
    | ok a => rfl
    | exc c => rfl
end Dn

set_option maxHeartbeats 4400000
namespace Dn
open PySem
/-- from here on a list of one's own stands still -/
def sFrz (i : Nat) (b : SF) : SF := fun ρ => match ρ[i]? with
  | some (some (.own ds)) => b (ρ.set i (some (.dat (.list ds))))
  | _ => none
/-- sorted: of a list, of a tuple -/
def sortAD : D → Option D
  | .list xs => if sortOk xs then some (.list (sortL xs)) else none
  | .tuple xs => if sortOk xs then some (.list (sortL xs)) else none
  | _ => none
/-- list + list, a new list -/
def catD : D → D → Option D
  | .list a, .list b => if a.length + b.length ≤ 1000000 then some (.list (a ++ b)) else none
  | _, _ => none
/-- sep.join(a list of texts) -/
def eJoin2 (fa fb : EF) : EF := fun ρ => bnd (fa ρ) fun a => match a with
  | .str z => bnd (fb ρ) fun b => lft ((lstOf b).bind fun xs => (strsOf xs).bind fun ys => if (ys.map fun y => y.length).sum + ys.length * z.length ≤ 1000000 then some (.str (Txt.join z ys)) else none)
  | _ => none
end Dn

set_option maxHeartbeats 4400000
namespace Dn
open PySem
/-- a comprehension whose element may let an exception out -/
def compLX (g : GF) (t : TF) (f : EF) (ρ : Env) : List D → M (List D)
  | [] => ret []
  | d :: ds => match g d ρ with
    | none => none
    | some ρ1 => match t ρ1 with
      | some (.ok true) => bnd (f ρ1) fun y => bnd (compLX g t f ρ ds) fun r => ret (y :: r)
      | some (.ok false) => compLX g t f ρ ds
      | _ => none
def eCompX (it : AF) (g : GF) (t : TF) (f : EF) (vs : List Nat) : EF := fun ρ => bnd (it ρ) fun ds => if ds.length ≤ 1000000 then bnd (compLX g t f (wipe ρ vs) ds) fun r => ret (.list r) else none
/-- text.split(sep) -/
def splitD : D → D → Option D
  | .str a, .str b => if b.length ≠ 0 ∧ a.length ≤ 1000000 then some (.list ((Txt.split a b).map .str)) else none
  | _, _ => none
def eSplit (fa fb : EF) : EF := fun ρ => bnd (fa ρ) fun a => match a with
  | .str z => bnd (fb ρ) fun b => lft (splitD (.str z) b)
  | _ => none
/-- range(a, b, c), c a small step upwards -/
def rgL3 (a c : Int) (n : Nat) : List D := (List.range n).map fun (i : Nat) => .int (a + (i : Nat) * c)
def range3D : D → D → D → Option (List D)
  | .int a, .int b, .int c => if rgOk a && rgOk b && decide (1 ≤ c ∧ c ≤ 1000) then some (rgL3 a c (Builtin.Range.rangeSize a b c).toNat) else none
  | _, _, _ => none
def iRng3 (fa fb fc : EF) : AF := fun ρ => bnd (fa ρ) fun a => bnd (fb ρ) fun b => bnd (fc ρ) fun c => lft (range3D a b c)
/-- d is None -/
def isD : D → D → Option D
  | d, .none => isNonD d
  | _, _ => none
end Dn

set_option maxHeartbeats 4400000
/-! Dw: the hand layer's readings answered by plain data. -/
namespace Dw
open PySem PySem.Spec PyProof.Rows L2

/-! ### data that is tracked: tuples stand in the abstract heap itself -/
def SqT (K : PySem.W.Frag) (H : Hp) (a : Addr) (xs : List V) : Prop := H a = some (.tup xs)
theorem SqT.of {K : PySem.W.Frag} {H : Hp} {a : Addr} {xs : List V} (h : H a = some (.tup xs)) : SqT K H a xs := h
theorem SqT.l2 {K : PySem.W.Frag} {H : Hp} {a : Addr} {xs : List V} (h : SqT K H a xs) : L2.SqT K H a xs := .inl (.inl h)
instance {K : PySem.W.Frag} {H : Hp} {a : Addr} {xs : List V} : Coe (SqT K H a xs) (L2.SqT K H a xs) := ⟨SqT.l2⟩
section
variable (K : PySem.W.Frag) (H : Hp)
mutual
/-- v is the datum d, as H stands -/
inductive Dp : V → PyData → Prop
  | non : Dp .non .none
  | bl b : Dp (.bl b) (.bool b)
  | int i : Dp (.int i) (.int i)
  | str x : Dp (.str x) (.str x)
  | lst {a xs ds} (at_ : SqL K H a xs) (items : DpAll xs ds) : Dp (.ref a) (.list ds)
  | tup {a xs ds} (at_ : SqT K H a xs) (items : DpAll xs ds) : Dp (.ref a) (.tuple ds)
/-- one by one -/
inductive DpAll : List V → List PyData → Prop
  | nil : DpAll [] []
  | cons {v vs d ds} (head : Dp v d) (tail : DpAll vs ds) : DpAll (v :: vs) (d :: ds)
end
end
mutual
theorem Dp.l2 {K : PySem.W.Frag} {H : Hp} : ∀ {v : V} {d : PyData}, Dp K H v d → L2.Dp K H v d
  | _, _, .non => .non
  | _, _, .bl b => .bl b
  | _, _, .int i => .int i
  | _, _, .str x => .str x
  | _, _, .lst h a => .lst h (DpAll.l2 a)
  | _, _, .tup h a => .tup h.l2 (DpAll.l2 a)
theorem DpAll.l2 {K : PySem.W.Frag} {H : Hp} : ∀ {vs : List V} {ds : List PyData}, DpAll K H vs ds → L2.DpAll K H vs ds
  | _, _, .nil => .nil
  | _, _, .cons h a => .cons (Dp.l2 h) (DpAll.l2 a)
end
theorem Dp.reads {X : Cx} {pins : List (Addr × Obj)} {σ : L2.St} {H : Hp} {s : Shared} (I : Inv X pins σ H s) (d : PyData) (v : V) (u : Value) (h : Dp X.K H v d) (r : RelV v u) : ∃ as, Reads s.heap u d as := L2.Dp.reads I d v u h.l2 r
theorem Dp.readsAll {X : Cx} {pins : List (Addr × Obj)} {σ : L2.St} {H : Hp} {s : Shared} (I : Inv X pins σ H s) (ds : List PyData) (vs : List V) (us : List Value) (h : DpAll X.K H vs ds) (r : Vals vs us) : ∃ as, ReadsAll s.heap us ds as := L2.Dp.readsAll I ds vs us h.l2 r
/-! ### heaps: F stands still, within H -/
structure Ext (F H F' H' : Hp) : Prop where
  f : Same F F'
  s : Same F' H'
  h : Same H H'
  n : ∀ b o, F' b = some o → F b = some o ∨ H b = none ∨ ∃ xs, o = .tup xs
theorem Ext.refl {F H : Hp} (h : Same F H) : Ext F H F H := ⟨Same.refl _, h, Same.refl _, fun _ _ e => .inl e⟩
theorem Ext.trans {F H F1 H1 F2 H2 : Hp} (a : Ext F H F1 H1) (b : Ext F1 H1 F2 H2) : Ext F H F2 H2 :=
  ⟨a.f.trans b.f, b.s, a.h.trans b.h, fun c o e => by
    rcases b.n c o e with q | q | q
    · exact a.n c o q
    · exact .inr (.inl (a.h.free q))
    · exact .inr (.inr q)⟩
theorem same_upd {H : Hp} {p : Addr} {o : HO} (h : H p = none) : Same H (upd H p o) := fun b x e => by
  rw [upd_ne (ne_of_none e h)]
  exact e
theorem Ext.fresh {F H : Hp} (s : Same F H) {p : Addr} (o : HO) (np : H p = none) : Ext F H (upd F p o) (upd H p o) :=
  ⟨same_upd (s.free np), fun b x e => by
    by_cases hb : b = p
    · subst hb; rw [upd_same] at e ⊢; exact e
    · rw [upd_ne hb] at e ⊢; exact s b x e, same_upd np, fun b x e => by
    by_cases hb : b = p
    · subst hb; exact .inr (.inl np)
    · rw [upd_ne hb] at e; exact .inl e⟩
/-- the new object stays outside of F -/
theorem Ext.freshO {F H : Hp} (s : Same F H) {p : Addr} (o : HO) (np : H p = none) : Ext F H F (upd H p o) :=
  ⟨Same.refl _, s.trans (same_upd np), same_upd np, fun _ _ e => .inl e⟩
theorem sqt_mono {K : PySem.W.Frag} {H H' : Hp} {a : Addr} {xs : List V} (e : Same H H') (h : SqT K H a xs) : SqT K H' a xs := e _ _ h
mutual
theorem Dp_mono {K : PySem.W.Frag} {F F' : Hp} (s : Same F F') : ∀ {v : V} {d : PyData}, Dp K F v d → Dp K F' v d
  | _, _, .non => .non
  | _, _, .bl b => .bl b
  | _, _, .int i => .int i
  | _, _, .str x => .str x
  | _, _, .lst h a => .lst (s.seq h) (DpAll_mono s a)
  | _, _, .tup h a => .tup (sqt_mono s h) (DpAll_mono s a)
theorem DpAll_mono {K : PySem.W.Frag} {F F' : Hp} (s : Same F F') : ∀ {vs : List V} {ds : List PyData}, DpAll K F vs ds → DpAll K F' vs ds
  | _, _, .nil => .nil
  | _, _, .cons h a => .cons (Dp_mono s h) (DpAll_mono s a)
end
theorem DpAll_len {K : PySem.W.Frag} {F : Hp} : ∀ {vs : List V} {ds : List PyData}, DpAll K F vs ds → vs.length = ds.length
  | _, _, .nil => rfl
  | _, _, .cons _ a => by rw [List.length_cons, List.length_cons, DpAll_len a]
theorem DpAll_get {K : PySem.W.Frag} {F : Hp} : ∀ {vs : List V} {ds : List PyData}, DpAll K F vs ds → ∀ {i : Nat} {d : PyData}, ds[i]? = some d → ∃ v, vs[i]? = some v ∧ Dp K F v d
  | _, _, .nil, _, _, e => by simp at e
  | _, _, .cons h a, 0, d, e => by
    have e' := Option.some.inj e
    subst e'
    exact ⟨_, rfl, h⟩
  | _, _, .cons h a, i + 1, d, e => DpAll_get a (i := i) e
theorem DpAll_getV {K : PySem.W.Frag} {F : Hp} : ∀ {vs : List V} {ds : List PyData}, DpAll K F vs ds → ∀ {i : Nat} {v : V}, vs[i]? = some v → ∃ d, ds[i]? = some d ∧ Dp K F v d
  | _, _, .nil, _, _, e => by simp at e
  | _, _, .cons h a, 0, d, e => by
    have e' := Option.some.inj e
    subst e'
    exact ⟨_, rfl, h⟩
  | _, _, .cons h a, i + 1, d, e => DpAll_getV a (i := i) e
theorem DpAll_app {K : PySem.W.Frag} {F : Hp} : ∀ {vs ws : List V} {ds es : List PyData}, DpAll K F vs ds → DpAll K F ws es → DpAll K F (vs ++ ws) (ds ++ es)
  | _, _, _, _, .nil, b => b
  | _, _, _, _, .cons h a, b => .cons h (DpAll_app a b)
theorem DpAll_set {K : PySem.W.Frag} {F : Hp} {v : V} {d : PyData} (hv : Dp K F v d) : ∀ {vs : List V} {ds : List PyData} (i : Nat), DpAll K F vs ds → DpAll K F (vs.set i v) (ds.set i d)
  | _, _, _, .nil => .nil
  | _, _, 0, .cons _ a => .cons hv a
  | _, _, i + 1, .cons h a => .cons h (DpAll_set hv i a)
theorem DpAll_drop {K : PySem.W.Frag} {F : Hp} : ∀ {vs : List V} {ds : List PyData} (n : Nat), DpAll K F vs ds → DpAll K F (vs.drop n) (ds.drop n)
  | _, _, 0, h => h
  | _, _, n + 1, .nil => .nil
  | _, _, n + 1, .cons _ a => DpAll_drop n a
theorem DpAll_take {K : PySem.W.Frag} {F : Hp} : ∀ {vs : List V} {ds : List PyData} (n : Nat), DpAll K F vs ds → DpAll K F (vs.take n) (ds.take n)
  | _, _, 0, h => .nil
  | _, _, n + 1, .nil => .nil
  | _, _, n + 1, .cons h a => .cons h (DpAll_take n a)
theorem DpAll_one {K : PySem.W.Frag} {F : Hp} {v : V} {d : PyData} (h : Dp K F v d) : DpAll K F [v] [d] := .cons h .nil
theorem DpAll_rep {K : PySem.W.Frag} {F : Hp} {vs : List V} {ds : List PyData} (h : DpAll K F vs ds) : ∀ k : Nat, DpAll K F (List.replicate k vs).flatten (List.replicate k ds).flatten
  | 0 => .nil
  | k + 1 => by
    rw [List.replicate_succ, List.replicate_succ, List.flatten_cons, List.flatten_cons]
    exact DpAll_app h (DpAll_rep h k)
theorem DpAll_ints {K : PySem.W.Frag} {F : Hp} : ∀ {vs : List V} {ds : List PyData} {ns : List Int}, DpAll K F vs ds → Dn.intsOf ds = some ns → vs = ns.map V.int
  | _, _, _, .nil, e => by
    have e' := Option.some.inj e
    subst e'
    rfl
  | _, _, ns, .cons h a, e => by
    cases h with
    | int i =>
      unfold Dn.intsOf at e
      obtain ⟨ms, hm, e'⟩ := Option.map_eq_some_iff.mp e
      subst e'
      rw [DpAll_ints a hm]
      rfl
    | non => cases e
    | bl b => cases e
    | str x => cases e
    | lst _ _ => cases e
    | tup _ _ => cases e
theorem DpAll_bls {K : PySem.W.Frag} {F : Hp} : ∀ {vs : List V} {ds : List PyData} {ns : List Bool}, DpAll K F vs ds → Dn.boolsOf ds = some ns → vs = ns.map V.bl
  | _, _, _, .nil, e => by
    have e' := Option.some.inj e
    subst e'
    rfl
  | _, _, ns, .cons h a, e => by
    cases h with
    | bl i =>
      unfold Dn.boolsOf at e
      obtain ⟨ms, hm, e'⟩ := Option.map_eq_some_iff.mp e
      subst e'
      rw [DpAll_bls a hm]
      rfl
    | non => cases e
    | int b => cases e
    | str x => cases e
    | lst _ _ => cases e
    | tup _ _ => cases e

/-- the value v stands for d; a list at its top may be one that is still changed -/
def W (K : PySem.W.Frag) (F H : Hp) (v : V) (d : PyData) : Prop := Dp K F v d ∨ ∃ a vs ds, v = .ref a ∧ d = .list ds ∧ H a = some (.lst vs) ∧ DpAll K F vs ds
theorem W.dp {K : PySem.W.Frag} {F H : Hp} {v : V} {d : PyData} (s : Same F H) (w : W K F H v d) : Dp K H v d := by
  rcases w with w | ⟨a, vs, ds, rfl, rfl, h, q⟩
  · exact Dp_mono s w
  · exact .lst (SqL.of h) (DpAll_mono s q)
theorem W.mono {K : PySem.W.Frag} {F H F' H' : Hp} {v : V} {d : PyData} (x : Ext F H F' H') (w : W K F H v d) : W K F' H' v d := by
  rcases w with w | ⟨a, vs, ds, rfl, rfl, h, q⟩
  · exact .inl (Dp_mono x.f w)
  · exact .inr ⟨a, vs, ds, rfl, rfl, x.h _ _ h, DpAll_mono x.f q⟩
theorem W.list {K : PySem.W.Frag} {F H : Hp} {v : V} {ds : List PyData} (s : Same F H) (w : W K F H v (.list ds)) : ∃ a vs, v = .ref a ∧ SqL K H a vs ∧ DpAll K F vs ds := by
  rcases w with w | ⟨a, vs, ds', rfl, e, h, q⟩
  · cases w with
    | lst h a => exact ⟨_, _, rfl, s.seq h, a⟩
  · cases e
    exact ⟨a, vs, rfl, SqL.of h, q⟩
theorem W.tuple {K : PySem.W.Frag} {F H : Hp} {v : V} {ds : List PyData} (w : W K F H v (.tuple ds)) : ∃ a vs, v = .ref a ∧ SqT K F a vs ∧ DpAll K F vs ds := by
  rcases w with w | ⟨a, vs, ds', rfl, e, h, q⟩
  · cases w with
    | tup h a => exact ⟨_, _, rfl, h, a⟩
  · cases e
theorem W.int {K : PySem.W.Frag} {F H : Hp} {v : V} {i : Int} (w : W K F H v (.int i)) : v = .int i := by
  rcases w with w | ⟨a, vs, ds', rfl, e, h, q⟩
  · cases w; rfl
  · cases e
theorem W.bl {K : PySem.W.Frag} {F H : Hp} {v : V} {i : Bool} (w : W K F H v (.bool i)) : v = .bl i := by
  rcases w with w | ⟨a, vs, ds', rfl, e, h, q⟩
  · cases w; rfl
  · cases e
theorem W.str {K : PySem.W.Frag} {F H : Hp} {v : V} {i : Str} (w : W K F H v (.str i)) : v = .str i := by
  rcases w with w | ⟨a, vs, ds', rfl, e, h, q⟩
  · cases w; rfl
  · cases e
theorem W.non {K : PySem.W.Frag} {F H : Hp} {v : V} (w : W K F H v .none) : v = .non := by
  rcases w with w | ⟨a, vs, ds', rfl, e, h, q⟩
  · cases w; rfl
  · cases e

/-! ### the slots -/
structure Rp (K : PySem.W.Frag) (B F0 F H : Hp) (σ : L2.St) (ρ : Dn.Env) : Prop where
  bh : Same B H
  ff : Same F0 F
  fh : Same F H
  nb : ∀ b o, F b = some o → F0 b = some o ∨ B b = none ∨ ∃ xs, o = .tup xs
  len : σ.length = ρ.length
  dat : ∀ (i : Nat) (d : PyData), ρ[i]? = some (some (.dat d)) → ∃ v, σ[i]? = some (some v) ∧ Dp K F v d
  own : ∀ (i : Nat) (ds : List PyData), ρ[i]? = some (some (.own ds)) → ∃ a vs, σ[i]? = some (some (.ref a)) ∧ H a = some (.lst vs) ∧ B a = none ∧ F a = none ∧ DpAll K F vs ds
  ownT : ∀ (i : Nat) (kvs : List (List Int × PyData)), ρ[i]? = some (some (.ownT kvs)) → ∃ a ws, σ[i]? = some (some (.ref a)) ∧ H a = some (.dT ws) ∧ B a = none ∧ F a = none ∧ Paired (fun (p : List Key × V) (q : List Int × PyData) => p.1 = q.1.map Sum.inl ∧ Dp K F p.2 q.2) ws kvs
  frzT : ∀ (i : Nat) (kvs : List (List Int × PyData)), ρ[i]? = some (some (.frzT kvs)) → ∃ a ws o, σ[i]? = some (some (.ref a)) ∧ B a = some (.frz o (.dT ws)) ∧ Paired (fun (p : List Key × V) (q : List Int × PyData) => p.1 = q.1.map Sum.inl ∧ Dp K F p.2 q.2) ws kvs
  dist : ∀ (i j : Nat) (a : Addr) (s s' : Dn.Sl), ρ[i]? = some (some s) → ρ[j]? = some (some s') → (∀ d, s ≠ .dat d) → (∀ d, s' ≠ .dat d) → σ[i]? = some (some (.ref a)) → σ[j]? = some (some (.ref a)) → i = j
section
variable {K : PySem.W.Frag} {B F0 F H F' H' : Hp} {σ : L2.St} {ρ : Dn.Env}
theorem not_f (x : Ext F H F' H') {a : Addr} {o : HO} (h : H a = some o) (f : F a = none) (ho : ∀ xs, o ≠ .tup xs := by intro _ z; cases z) : F' a = none := by
  cases q : F' a with
  | none => rfl
  | some u =>
    rcases x.n a u q with z | z | ⟨xs, z⟩
    · rw [f] at z; cases z
    · rw [h] at z; cases z
    · have h1 := x.s a u q
      rw [x.h a o h] at h1
      cases h1
      exact absurd z (ho xs)
theorem paired_mono {κ α : Type} {P Q : κ → α → Prop} : ∀ {l : List κ} {m : List α}, Paired P l m → (∀ a b, P a b → Q a b) → Paired Q l m
  | _, _, .nil, _ => .nil
  | _, _, .cons h t, f => .cons (f _ _ h) (paired_mono t f)
theorem Rp.ext (R : Rp K B F0 F H σ ρ) (x : Ext F H F' H') : Rp K B F0 F' H' σ ρ where
  bh := R.bh.trans x.h
  ff := R.ff.trans x.f
  fh := x.s
  nb := fun b o e => by
    rcases x.n b o e with q | q | q
    · exact R.nb b o q
    · exact .inr (.inl (R.bh.free q))
    · exact .inr (.inr q)
  len := R.len
  dat := fun i d e => let ⟨v, h1, h2⟩ := R.dat i d e; ⟨v, h1, Dp_mono x.f h2⟩
  own := fun i ds e => let ⟨a, vs, h1, h2, h3, h4, h5⟩ := R.own i ds e; ⟨a, vs, h1, x.h _ _ h2, h3, not_f x h2 h4, DpAll_mono x.f h5⟩
  ownT := fun i ds e => let ⟨a, vs, h1, h2, h3, h4, h5⟩ := R.ownT i ds e; ⟨a, vs, h1, x.h _ _ h2, h3, not_f x h2 h4, paired_mono h5 fun _ _ q => ⟨q.1, Dp_mono x.f q.2⟩⟩
  frzT := fun i ds e => let ⟨a, vs, o, h1, h2, h5⟩ := R.frzT i ds e; ⟨a, vs, o, h1, h2, paired_mono h5 fun _ _ q => ⟨q.1, Dp_mono x.f q.2⟩⟩
  dist := R.dist
theorem Rp.rebase (R : Rp K B F0 F H σ ρ) : Rp K B F F H σ ρ :=
  ⟨R.bh, Same.refl _, R.fh, fun _ _ e => .inl e, R.len, R.dat, R.own, R.ownT, R.frzT, R.dist⟩
theorem Rp.unbase {H1 : Hp} {σ1 : L2.St} {ρ1 : Dn.Env} (R0 : Rp K B F0 F H1 σ1 ρ1) (R : Rp K B F F' H' σ ρ) : Rp K B F0 F' H' σ ρ :=
  ⟨R.bh, R0.ff.trans R.ff, R.fh, fun b o e => by
    rcases R.nb b o e with q | q
    · exact R0.nb b o q
    · exact .inr q, R.len, R.dat, R.own, R.ownT, R.frzT, R.dist⟩
/-- a slot takes a datum -/
theorem Rp.setDat (R : Rp K B F0 F H σ ρ) {v : V} {d : PyData} (h : Dp K F v d) (i : Nat) : Rp K B F0 F H (σ.set i (some v)) (ρ.set i (some (.dat d))) where
  bh := R.bh
  ff := R.ff
  fh := R.fh
  nb := R.nb
  len := by rw [List.length_set, List.length_set]; exact R.len
  dat := fun j e q => by
    by_cases hj : i = j
    · subst hj
      have hl : i < ρ.length := by
        have := List.getElem?_eq_some_iff.mp q
        obtain ⟨z, _⟩ := this
        rw [List.length_set] at z; exact z
      rw [List.getElem?_set_self hl] at q
      cases q
      exact ⟨v, List.getElem?_set_self (by rw [R.len]; exact hl), h⟩
    · rw [List.getElem?_set_ne hj] at q ⊢
      exact R.dat j e q
  own := fun j e q => by
    by_cases hj : i = j
    · subst hj
      have hl : i < ρ.length := by
        have := List.getElem?_eq_some_iff.mp q
        obtain ⟨z, _⟩ := this
        rw [List.length_set] at z; exact z
      rw [List.getElem?_set_self hl] at q
      cases q
    · rw [List.getElem?_set_ne hj] at q ⊢
      exact R.own j e q
  ownT := fun j e q => by
    by_cases hj : i = j
    · subst hj
      have hl : i < ρ.length := by
        have := List.getElem?_eq_some_iff.mp q
        obtain ⟨z, _⟩ := this
        rw [List.length_set] at z; exact z
      rw [List.getElem?_set_self hl] at q
      cases q
    · rw [List.getElem?_set_ne hj] at q ⊢
      exact R.ownT j e q
  frzT := fun j e q => by
    by_cases hj : i = j
    · subst hj
      have hl : i < ρ.length := by
        have := List.getElem?_eq_some_iff.mp q
        obtain ⟨z, _⟩ := this
        rw [List.length_set] at z; exact z
      rw [List.getElem?_set_self hl] at q
      cases q
    · rw [List.getElem?_set_ne hj] at q ⊢
      exact R.frzT j e q
  dist := fun j k a s s' h1 h2 n1 n2 e1 e2 => by
    have key : ∀ {j s}, (ρ.set i (some (.dat d)))[j]? = some (some s) → (∀ d, s ≠ .dat d) → i ≠ j := fun {j s} q n z => by
      subst z
      have hl : i < ρ.length := by
        have := List.getElem?_eq_some_iff.mp q
        obtain ⟨z, _⟩ := this
        rw [List.length_set] at z; exact z
      rw [List.getElem?_set_self hl] at q
      cases q
      exact n d rfl
    have i1 := key h1 n1
    have i2 := key h2 n2
    rw [List.getElem?_set_ne i1] at h1 e1
    rw [List.getElem?_set_ne i2] at h2 e2
    exact R.dist j k a s s' h1 h2 n1 n2 e1 e2
/-- a slot forgotten -/
theorem Rp.forget (R : Rp K B F0 F H σ ρ) (i : Nat) : Rp K B F0 F H (σ.set i none) (ρ.set i none) where
  bh := R.bh
  ff := R.ff
  fh := R.fh
  nb := R.nb
  len := by rw [List.length_set, List.length_set]; exact R.len
  dat := fun j e q => by
    by_cases hj : i = j
    · subst hj
      rw [List.getElem?_set_self' ] at q
      cases hz : ρ[i]? with
      | none => rw [hz] at q; cases q
      | some z => rw [hz] at q; cases q
    · rw [List.getElem?_set_ne hj] at q ⊢
      exact R.dat j e q
  own := fun j e q => by
    by_cases hj : i = j
    · subst hj
      rw [List.getElem?_set_self' ] at q
      cases hz : ρ[i]? with
      | none => rw [hz] at q; cases q
      | some z => rw [hz] at q; cases q
    · rw [List.getElem?_set_ne hj] at q ⊢
      exact R.own j e q
  ownT := fun j e q => by
    by_cases hj : i = j
    · subst hj
      rw [List.getElem?_set_self' ] at q
      cases hz : ρ[i]? with
      | none => rw [hz] at q; cases q
      | some z => rw [hz] at q; cases q
    · rw [List.getElem?_set_ne hj] at q ⊢
      exact R.ownT j e q
  frzT := fun j e q => by
    by_cases hj : i = j
    · subst hj
      rw [List.getElem?_set_self' ] at q
      cases hz : ρ[i]? with
      | none => rw [hz] at q; cases q
      | some z => rw [hz] at q; cases q
    · rw [List.getElem?_set_ne hj] at q ⊢
      exact R.frzT j e q
  dist := fun j k a s s' h1 h2 n1 n2 e1 e2 => by
    have key : ∀ {j s}, (ρ.set i none)[j]? = some (some s) → i ≠ j := fun {j s} q z => by
      subst z
      rw [List.getElem?_set_self' ] at q
      cases hz : ρ[i]? with
      | none => rw [hz] at q; cases q
      | some z => rw [hz] at q; cases q
    have i1 := key h1
    have i2 := key h2
    rw [List.getElem?_set_ne i1] at h1 e1
    rw [List.getElem?_set_ne i2] at h2 e2
    exact R.dist j k a s s' h1 h2 n1 n2 e1 e2
theorem Rp.wipe (R : Rp K B F0 F H σ ρ) : ∀ vs : List Nat, Rp K B F0 F H (L2.wipe σ vs) (Dn.wipe ρ vs)
  | [] => R
  | v :: vs => (R.wipe vs).forget v
end

/-! ### readings -/
section
variable (K : PySem.W.Frag) (cl : Str → Value) (E : XK)
def Rd (t : TE) (f : Dn.EF) : Prop := ∀ B F0 F H σ ρ, Rp K B F0 F H σ ρ → ∀ r, f ρ = some r → ∀ Q : VK,
  (∀ d, r = .ok d → ∀ v F' H', Ext F H F' H' → Dp K F' v d → Q v H') → (∀ c, r = .exc c → ∀ F' H', Ext F H F' H' → E (cl c) none H') → t σ H Q
def RdW (t : TE) (f : Dn.EF) : Prop := ∀ B F0 F H σ ρ, Rp K B F0 F H σ ρ → ∀ r, f ρ = some r → ∀ Q : VK,
  (∀ d, r = .ok d → ∀ v F' H', Ext F H F' H' → W K F' H' v d → Q v H') → (∀ c, r = .exc c → ∀ F' H', Ext F H F' H' → E (cl c) none H') → t σ H Q
/-- a new list -/
def RdN (t : TE) (f : Dn.EF) : Prop := ∀ B F0 F H σ ρ, Rp K B F0 F H σ ρ → ∀ r, f ρ = some r → ∀ Q : VK,
  (∀ d, r = .ok d → ∀ a vs ds F' H', Ext F H F' H' → d = .list ds → H a = none → F' a = none → H' a = some (.lst vs) → DpAll K F' vs ds → Q (.ref a) H') → (∀ c, r = .exc c → ∀ F' H', Ext F H F' H' → E (cl c) none H') → t σ H Q
def RdT (t : TT) (f : Dn.TF) : Prop := ∀ B F0 F H σ ρ, Rp K B F0 F H σ ρ → ∀ r, f ρ = some r → ∀ Q : Bool → Hp → Prop,
  (∀ b, r = .ok b → ∀ F' H', Ext F H F' H' → Q b H') → (∀ c, r = .exc c → ∀ F' H', Ext F H F' H' → E (cl c) none H') → t σ H Q
def RdA (t : TA) (f : Dn.AF) : Prop := ∀ B F0 F H σ ρ, Rp K B F0 F H σ ρ → ∀ r, f ρ = some r → ∀ Q : List V → Hp → Prop,
  (∀ ds, r = .ok ds → ∀ vs F' H', Ext F H F' H' → DpAll K F' vs ds → Q vs H') → (∀ c, r = .exc c → ∀ F' H', Ext F H F' H' → E (cl c) none H') → t σ H Q
def RdO (t : TO) (f : Dn.Env → Dn.M (Option Int)) : Prop := ∀ B F0 F H σ ρ, Rp K B F0 F H σ ρ → ∀ r, f ρ = some r → ∀ Q : Option Int → Hp → Prop,
  (∀ b, r = .ok b → ∀ F' H', Ext F H F' H' → Q b H') → (∀ c, r = .exc c → ∀ F' H', Ext F H F' H' → E (cl c) none H') → t σ H Q
/-- J goes through ds while F stands -/
structure Walk (J : It) (F : Hp) (ds : List PyData) : Prop where
  go : ∀ i H, Same F H → i < ds.length → J.go i H
  stop : ∀ i H, Same F H → ds.length ≤ i → J.stop i H
  yld : ∀ i F' H x H', Same F F' → Same F' H → J.yld i H x H' → i < ds.length → ∃ d F'', ds[i]? = some d ∧ Ext F' H F'' H' ∧ Dp K F'' x d
def RdI (t : TI) (f : Dn.AF) : Prop := ∀ B F0 F H σ ρ, Rp K B F0 F H σ ρ → ∀ r, f ρ = some r → ∀ Q : It → Hp → Prop,
  (∀ ds, r = .ok ds → ∀ J F' H', Ext F H F' H' → Walk K J F' ds → Q J H') → (∀ c, r = .exc c → ∀ F' H', Ext F H F' H' → E (cl c) none H') → t σ H Q
def RdG (g : TG) (f : Dn.GF) (vs : List Nat) : Prop := ∀ B F0 F H σ ρ v d ρ', Rp K B F0 F H σ ρ → Dp K F v d → f d ρ = some ρ' → ∀ Q : L2.St → Hp → Prop,
  (∀ σ', Rp K B F0 F H σ' ρ' → (∀ ws : List Nat, (∀ i ∈ vs, i ∈ ws) → L2.wipe σ' ws = L2.wipe σ ws) → Q σ' H) → g v σ H Q
def Post (B F0 : Hp) (D : Ends) : Dn.SOut → Prop
  | .nx ρ' => ∀ F' H' σ', Rp K B F0 F' H' σ' ρ' → D.nx σ' H'
  | .bk ρ' => ∀ F' H' σ', Rp K B F0 F' H' σ' ρ' → D.bk σ' H'
  | .ct ρ' => ∀ F' H' σ', Rp K B F0 F' H' σ' ρ' → D.ct σ' H'
  | .rt d => ∀ v F' H', Same B H' → Same F0 F' → Same F' H' → (∀ b o, F' b = some o → F0 b = some o ∨ B b = none ∨ ∃ xs, o = .tup xs) → Dp K F' v d → D.rt v H'
  | .exc c => ∀ H', Same B H' → E (cl c) none H'
def RdS (t : TS) (f : Dn.SF) : Prop := ∀ B F0 F H σ ρ, Rp K B F0 F H σ ρ → ∀ r, f ρ = some r → ∀ D : Ends, Post K cl E B F0 D r → t D σ H
end

section
variable {K : PySem.W.Frag} {cl : Str → Value} {E : XK}
theorem bnd_cases {α β : Type} {x : Dn.M α} {k : α → Dn.M β} {r : Dn.Rs β} (h : Dn.bnd x k = some r) : (∃ a, x = some (.ok a) ∧ k a = some r) ∨ ∃ c, x = some (.exc c) ∧ r = .exc c := by
  cases x with
  | none => cases h
  | some y =>
    cases y with
    | ok a => exact .inl ⟨a, rfl, h⟩
    | exc c =>
      have e := Option.some.inj h
      exact .inr ⟨c, rfl, e.symm⟩
theorem lft_cases {α : Type} {x : Option α} {r : Dn.Rs α} (h : Dn.lft x = some r) : ∃ a, x = some a ∧ r = .ok a := by
  cases x with
  | none => cases h
  | some a => exact ⟨a, rfl, (Option.some.inj h).symm⟩
theorem Rd.w {t : TE} {f : Dn.EF} (h : Rd K cl E t f) : RdW K cl E t f := fun B F0 F H σ ρ R r e Q ok ex =>
  h B F0 F H σ ρ R r e Q (fun d ed v F' H' x q => ok d ed v F' H' x (.inl q)) ex
theorem RdN.d {t : TE} {f : Dn.EF} (h : RdN K cl E t f) : Rd K cl E t f := fun B F0 F H σ ρ R r e Q ok ex =>
  h B F0 F H σ ρ R r e Q (fun d ed a vs ds F' H' x el na fa ha q => by
    subst el
    refine ok _ ed (.ref a) (upd F' a (.lst vs)) H' ⟨x.f.trans (same_upd fa), fun b o eb => ?_, x.h, fun b o eb => ?_⟩ (.lst (SqL.of upd_same) (DpAll_mono (same_upd fa) q))
    · by_cases hb : b = a
      · subst hb; rw [upd_same] at eb; cases eb; exact ha
      · rw [upd_ne hb] at eb; exact x.s b o eb
    · by_cases hb : b = a
      · subst hb; exact .inr (.inl na)
      · rw [upd_ne hb] at eb; exact x.n b o eb) ex
/-- no list at the top: strong -/
theorem rd_var (i : Nat) : Rd K cl E (tVar i) (Dn.eVar i) := fun B F0 F H σ ρ R r e Q ok ex => by
  unfold Dn.eVar at e
  split at e
  · rename_i d hd
    cases e
    obtain ⟨v, h1, h2⟩ := R.dat i d hd
    exact ⟨v, h1, ok d rfl v F H (Ext.refl R.fh) h2⟩
  · cases e
theorem rdw_var (i : Nat) : RdW K cl E (tVar i) (Dn.eVarW i) := fun B F0 F H σ ρ R r e Q ok ex => by
  unfold Dn.eVarW at e
  split at e
  · rename_i d hd
    cases e
    obtain ⟨v, h1, h2⟩ := R.dat i d hd
    exact ⟨v, h1, ok d rfl v F H (Ext.refl R.fh) (.inl h2)⟩
  · rename_i ds hd
    cases e
    obtain ⟨a, vs, h1, h2, h3, h4, h5⟩ := R.own i ds hd
    exact ⟨.ref a, h1, ok _ rfl _ F H (Ext.refl R.fh) (.inr ⟨a, vs, ds, rfl, rfl, h2, h5⟩)⟩
  · cases e
theorem rd_const {v : V} {d : PyData} (h : ∀ F, Dp K F v d) : Rd K cl E (tC v) (Dn.eC d) := fun B F0 F H σ ρ R r e Q ok ex => by
  cases e
  exact ok d rfl v F H (Ext.refl R.fh) (h F)
theorem rd_int (i : Int) : Rd K cl E (tC (.int i)) (Dn.eC (.int i)) := rd_const fun _ => .int i
theorem rd_bl (i : Bool) : Rd K cl E (tC (.bl i)) (Dn.eC (.bool i)) := rd_const fun _ => .bl i
theorem rd_non : Rd K cl E (tC .non) (Dn.eC .none) := rd_const fun _ => .non
theorem rd_str (i : Str) : Rd K cl E (tC (.str i)) (Dn.eC (.str i)) := rd_const fun _ => .str i

/-! ### operators, by data -/
def rD2 (K : PySem.W.Frag) (g : PyData → PyData → Option PyData) : R2 := fun x y H Q => ∃ F d e r, Same F H ∧ W K F H x d ∧ W K F H y e ∧ g d e = some r ∧ ∀ v F' H', Ext F H F' H' → Dp K F' v r → Q v H'
def rD1 (K : PySem.W.Frag) (g : PyData → Option PyData) : V → Hp → VK → Prop := fun x H Q => ∃ F d r, Same F H ∧ W K F H x d ∧ g d = some r ∧ ∀ v F' H', Ext F H F' H' → Dp K F' v r → Q v H'
theorem rd_op {g : PyData → PyData → Option PyData} {ta tb : TE} {fa fb : Dn.EF} (ha : RdW K cl E ta fa) (hb : RdW K cl E tb fb) : Rd K cl E (tOp (rD2 K g) ta tb) (Dn.e2 g fa fb) := fun B F0 F H σ ρ R r e Q ok ex => by
  rcases bnd_cases e with ⟨a, e1, e2⟩ | ⟨c, e1, rfl⟩
  · refine ha B F0 F H σ ρ R _ e1 _ (fun d ed v F1 H1 x1 w1 => ?_) (fun c ec => by cases ec)
    cases ed
    rcases bnd_cases e2 with ⟨b, e3, e4⟩ | ⟨c, e3, rfl⟩
    · refine hb B F0 F1 H1 σ ρ (R.ext x1) _ e3 _ (fun d2 ed2 v2 F2 H2 x2 w2 => ?_) (fun c ec => by cases ec)
      cases ed2
      obtain ⟨z, ez, rfl⟩ := lft_cases e4
      exact ⟨F2, a, b, z, x2.s, w1.mono x2, w2, ez, fun v F' H' x q => ok z rfl v F' H' ((x1.trans x2).trans x) q⟩
    · exact hb B F0 F1 H1 σ ρ (R.ext x1) _ e3 _ (fun d2 ed2 => by cases ed2) (fun c' ec F' H' x => by cases ec; exact ex c rfl F' H' (x1.trans x))
  · exact ha B F0 F H σ ρ R _ e1 _ (fun d ed => by cases ed) (fun c' ec F' H' x => by cases ec; exact ex c rfl F' H' x)
theorem rd_un {g : PyData → Option PyData} {ta : TE} {fa : Dn.EF} (ha : RdW K cl E ta fa) : Rd K cl E (tUn (rD1 K g) ta) (Dn.e1 g fa) := fun B F0 F H σ ρ R r e Q ok ex => by
  rcases bnd_cases e with ⟨a, e1, e2⟩ | ⟨c, e1, rfl⟩
  · refine ha B F0 F H σ ρ R _ e1 _ (fun d ed v F1 H1 x1 w1 => ?_) (fun c ec => by cases ec)
    cases ed
    obtain ⟨z, ez, rfl⟩ := lft_cases e2
    exact ⟨F1, a, z, x1.s, w1, ez, fun v F' H' x q => ok z rfl v F' H' (x1.trans x) q⟩
  · exact ha B F0 F H σ ρ R _ e1 _ (fun d ed => by cases ed) (fun c' ec F' H' x => by cases ec; exact ex c rfl F' H' x)
/-- a built-in of one argument, of two -/
def rDC1 (K : PySem.W.Frag) (g : PyData → Option PyData) : List V → Hp → VK → Prop := fun xs H Q => ∃ x, xs = [x] ∧ rD1 K g x H Q
def rDC2 (K : PySem.W.Frag) (g : PyData → PyData → Option PyData) : List V → Hp → VK → Prop := fun xs H Q => ∃ x y, xs = [x, y] ∧ rD2 K g x y H Q
theorem rd_b1 {g : PyData → Option PyData} {ta : TE} {fa : Dn.EF} (ha : RdW K cl E ta fa) : Rd K cl E (tCB (rDC1 K g) (tCons ta tNil)) (Dn.e1 g fa) := fun B F0 F H σ ρ R r e Q ok ex => by
  have h := rd_un (g := g) ha B F0 F H σ ρ R r e Q ok ex
  rcases bnd_cases e with ⟨a, e1, e2⟩ | ⟨c, e1, rfl⟩
  · refine ha B F0 F H σ ρ R _ e1 _ (fun d ed v F1 H1 x1 w1 => ?_) (fun c ec => by cases ec)
    cases ed
    obtain ⟨z, ez, rfl⟩ := lft_cases e2
    exact ⟨v, rfl, F1, a, z, x1.s, w1, ez, fun v F' H' x q => ok z rfl v F' H' (x1.trans x) q⟩
  · exact ha B F0 F H σ ρ R _ e1 _ (fun d ed => by cases ed) (fun c' ec F' H' x => by cases ec; exact ex c rfl F' H' x)
theorem rd_b2 {g : PyData → PyData → Option PyData} {ta tb : TE} {fa fb : Dn.EF} (ha : RdW K cl E ta fa) (hb : RdW K cl E tb fb) : Rd K cl E (tCB (rDC2 K g) (tCons ta (tCons tb tNil))) (Dn.e2 g fa fb) := fun B F0 F H σ ρ R r e Q ok ex => by
  rcases bnd_cases e with ⟨a, e1, e2⟩ | ⟨c, e1, rfl⟩
  · refine ha B F0 F H σ ρ R _ e1 _ (fun d ed v F1 H1 x1 w1 => ?_) (fun c ec => by cases ec)
    cases ed
    rcases bnd_cases e2 with ⟨b, e3, e4⟩ | ⟨c, e3, rfl⟩
    · refine hb B F0 F1 H1 σ ρ (R.ext x1) _ e3 _ (fun d2 ed2 v2 F2 H2 x2 w2 => ?_) (fun c ec => by cases ec)
      cases ed2
      obtain ⟨z, ez, rfl⟩ := lft_cases e4
      exact ⟨v, v2, rfl, F2, a, b, z, x2.s, w1.mono x2, w2, ez, fun v F' H' x q => ok z rfl v F' H' ((x1.trans x2).trans x) q⟩
    · exact hb B F0 F1 H1 σ ρ (R.ext x1) _ e3 _ (fun d2 ed2 => by cases ed2) (fun c' ec F' H' x => by cases ec; exact ex c rfl F' H' (x1.trans x))
  · exact ha B F0 F H σ ρ R _ e1 _ (fun d ed => by cases ed) (fun c' ec F' H' x => by cases ec; exact ex c rfl F' H' x)

/-! ### tests -/
theorem rdt_val {ta : TE} {fa : Dn.EF} (ha : RdW K cl E ta fa) : RdT K cl E (tB ta) (Dn.asB fa) := fun B F0 F H σ ρ R r e Q ok ex => by
  rcases bnd_cases e with ⟨a, e1, e2⟩ | ⟨c, e1, rfl⟩
  · refine ha B F0 F H σ ρ R _ e1 _ (fun d ed v F1 H1 x1 w1 => ?_) (fun c ec => by cases ec)
    cases ed
    obtain ⟨z, ez, rfl⟩ := lft_cases e2
    cases a with
    | bool b =>
      cases ez
      exact ⟨z, w1.bl, ok z rfl F1 H1 x1⟩
    | none => cases ez
    | int i => cases ez
    | str i => cases ez
    | list i => cases ez
    | tuple i => cases ez
    | dict i => cases ez
  · exact ha B F0 F H σ ρ R _ e1 _ (fun d ed => by cases ed) (fun c' ec F' H' x => by cases ec; exact ex c rfl F' H' x)
theorem rdt_test {ta : TE} {fa : Dn.EF} (ha : RdW K cl E ta fa) : RdT K cl E (tTest ta) (Dn.asB fa) := rdt_val ha
theorem rdt_not {tt : TT} {f : Dn.TF} (h : RdT K cl E tt f) : RdT K cl E (L2.tNot tt) (Dn.tNotF f) := fun B F0 F H σ ρ R r e Q ok ex => by
  rcases bnd_cases e with ⟨a, e1, e2⟩ | ⟨c, e1, rfl⟩
  · refine h B F0 F H σ ρ R _ e1 _ (fun d ed F1 H1 x1 => ?_) (fun c ec => by cases ec)
    cases ed
    cases e2
    exact ok _ rfl F1 H1 x1
  · exact h B F0 F H σ ρ R _ e1 _ (fun d ed => by cases ed) (fun c' ec F' H' x => by cases ec; exact ex c rfl F' H' x)
theorem rdt_and {tt tu : TT} {f g : Dn.TF} (h : RdT K cl E tt f) (h2 : RdT K cl E tu g) : RdT K cl E (L2.tAnd tt tu) (Dn.tAndF f g) := fun B F0 F H σ ρ R r e Q ok ex => by
  rcases bnd_cases e with ⟨a, e1, e2⟩ | ⟨c, e1, rfl⟩
  · refine h B F0 F H σ ρ R _ e1 _ (fun d ed F1 H1 x1 => ?_) (fun c ec => by cases ec)
    cases ed
    cases a with
    | true =>
      rw [if_pos rfl] at e2 ⊢
      exact h2 B F0 F1 H1 σ ρ (R.ext x1) _ e2 _ (fun d ed F2 H2 x2 => ok d ed F2 H2 (x1.trans x2)) (fun c ec F2 H2 x2 => ex c ec F2 H2 (x1.trans x2))
    | false =>
      rw [if_neg Bool.false_ne_true] at e2 ⊢
      cases e2
      exact ok _ rfl F1 H1 x1
  · exact h B F0 F H σ ρ R _ e1 _ (fun d ed => by cases ed) (fun c' ec F' H' x => by cases ec; exact ex c rfl F' H' x)
theorem rdt_or {tt tu : TT} {f g : Dn.TF} (h : RdT K cl E tt f) (h2 : RdT K cl E tu g) : RdT K cl E (L2.tOr tt tu) (Dn.tOrF f g) := fun B F0 F H σ ρ R r e Q ok ex => by
  rcases bnd_cases e with ⟨a, e1, e2⟩ | ⟨c, e1, rfl⟩
  · refine h B F0 F H σ ρ R _ e1 _ (fun d ed F1 H1 x1 => ?_) (fun c ec => by cases ec)
    cases ed
    cases a with
    | true =>
      rw [if_pos rfl] at e2 ⊢
      cases e2
      exact ok _ rfl F1 H1 x1
    | false =>
      rw [if_neg Bool.false_ne_true] at e2 ⊢
      exact h2 B F0 F1 H1 σ ρ (R.ext x1) _ e2 _ (fun d ed F2 H2 x2 => ok d ed F2 H2 (x1.trans x2)) (fun c ec F2 H2 x2 => ex c ec F2 H2 (x1.trans x2))
  · exact h B F0 F H σ ρ R _ e1 _ (fun d ed => by cases ed) (fun c' ec F' H' x => by cases ec; exact ex c rfl F' H' x)
theorem rdt_yes : RdT K cl E tYes Dn.tYesF := fun B F0 F H σ ρ R r e Q ok ex => by
  cases e
  exact ok _ rfl F H (Ext.refl R.fh)
theorem rd_not {ta : TE} {fa : Dn.EF} (ha : RdW K cl E ta fa) : Rd K cl E (tNotV ta) (Dn.e1 Dn.notD fa) := fun B F0 F H σ ρ R r e Q ok ex => by
  rcases bnd_cases e with ⟨a, e1, e2⟩ | ⟨c, e1, rfl⟩
  · refine ha B F0 F H σ ρ R _ e1 _ (fun d ed v F1 H1 x1 w1 => ?_) (fun c ec => by cases ec)
    cases ed
    obtain ⟨z, ez, rfl⟩ := lft_cases e2
    cases a with
    | bool b =>
      cases ez
      exact ⟨b, w1.bl, ok _ rfl _ F1 H1 x1 (.bl _)⟩
    | none => cases ez
    | int i => cases ez
    | str i => cases ez
    | list i => cases ez
    | tuple i => cases ez
    | dict i => cases ez
  · exact ha B F0 F H σ ρ R _ e1 _ (fun d ed => by cases ed) (fun c' ec F' H' x => by cases ec; exact ex c rfl F' H' x)
theorem rd_and {ta tb : TE} {fa fb : Dn.EF} (ha : RdW K cl E ta fa) (hb : Rd K cl E tb fb) : Rd K cl E (tAndV ta tb) (Dn.eAnd fa fb) := fun B F0 F H σ ρ R r e Q ok ex => by
  rcases bnd_cases e with ⟨a, e1, e2⟩ | ⟨c, e1, rfl⟩
  · rcases bnd_cases e1 with ⟨d1, e3, e4⟩ | ⟨c, e3, e5⟩
    · refine ha B F0 F H σ ρ R _ e3 _ (fun d ed v F1 H1 x1 w1 => ?_) (fun c ec => by cases ec)
      cases ed
      obtain ⟨z, ez, e6⟩ := lft_cases e4
      cases e6
      have hd : d1 = .bool a := by
        cases d1 <;> first | (cases ez; rfl) | cases ez
      subst hd
      refine ⟨a, w1.bl, ?_⟩
      cases a with
      | true =>
        rw [if_pos rfl] at e2 ⊢
        exact hb B F0 F1 H1 σ ρ (R.ext x1) _ e2 _ (fun d ed v F2 H2 x2 q => ok d ed v F2 H2 (x1.trans x2) q) (fun c ec F2 H2 x2 => ex c ec F2 H2 (x1.trans x2))
      | false =>
        rw [if_neg Bool.false_ne_true] at e2 ⊢
        cases e2
        exact ok _ rfl _ F1 H1 x1 (.bl _)
    · cases e5
  · rcases bnd_cases e1 with ⟨d1, e3, e4⟩ | ⟨c', e3, e5⟩
    · obtain ⟨z, ez, e6⟩ := lft_cases e4
      cases e6
    · cases e5
      exact ha B F0 F H σ ρ R _ e3 _ (fun d ed => by cases ed) (fun c' ec F' H' x => by cases ec; exact ex c rfl F' H' x)
theorem rd_or {ta tb : TE} {fa fb : Dn.EF} (ha : RdW K cl E ta fa) (hb : Rd K cl E tb fb) : Rd K cl E (tOrV ta tb) (Dn.eOr fa fb) := fun B F0 F H σ ρ R r e Q ok ex => by
  rcases bnd_cases e with ⟨a, e1, e2⟩ | ⟨c, e1, rfl⟩
  · rcases bnd_cases e1 with ⟨d1, e3, e4⟩ | ⟨c, e3, e5⟩
    · refine ha B F0 F H σ ρ R _ e3 _ (fun d ed v F1 H1 x1 w1 => ?_) (fun c ec => by cases ec)
      cases ed
      obtain ⟨z, ez, e6⟩ := lft_cases e4
      cases e6
      have hd : d1 = .bool a := by
        cases d1 <;> first | (cases ez; rfl) | cases ez
      subst hd
      refine ⟨a, w1.bl, ?_⟩
      cases a with
      | true =>
        rw [if_pos rfl] at e2 ⊢
        cases e2
        exact ok _ rfl _ F1 H1 x1 (.bl _)
      | false =>
        rw [if_neg Bool.false_ne_true] at e2 ⊢
        exact hb B F0 F1 H1 σ ρ (R.ext x1) _ e2 _ (fun d ed v F2 H2 x2 q => ok d ed v F2 H2 (x1.trans x2) q) (fun c ec F2 H2 x2 => ex c ec F2 H2 (x1.trans x2))
    · cases e5
  · rcases bnd_cases e1 with ⟨d1, e3, e4⟩ | ⟨c', e3, e5⟩
    · obtain ⟨z, ez, e6⟩ := lft_cases e4
      cases e6
    · cases e5
      exact ha B F0 F H σ ρ R _ e3 _ (fun d ed => by cases ed) (fun c' ec F' H' x => by cases ec; exact ex c rfl F' H' x)
theorem rd_chain {g h : PyData → PyData → Option PyData} {ta tb tc : TE} {fa fb fc : Dn.EF} (ha : RdW K cl E ta fa) (hb : RdW K cl E tb fb) (hc : RdW K cl E tc fc) :
    Rd K cl E (tChain (rD2 K g) (rD2 K h) ta tb tc) (Dn.eChain g h fa fb fc) := fun B F0 F H σ ρ R r e Q ok ex => by
  rcases bnd_cases e with ⟨a, e1, e2⟩ | ⟨c, e1, rfl⟩
  · refine ha B F0 F H σ ρ R _ e1 _ (fun d ed v F1 H1 x1 w1 => ?_) (fun c ec => by cases ec)
    cases ed
    rcases bnd_cases e2 with ⟨b, e3, e4⟩ | ⟨c, e3, rfl⟩
    · refine hb B F0 F1 H1 σ ρ (R.ext x1) _ e3 _ (fun d2 ed2 v2 F2 H2 x2 w2 => ?_) (fun c ec => by cases ec)
      cases ed2
      rcases bnd_cases e4 with ⟨z, ez, e5⟩ | ⟨c, ec, _⟩
      · obtain ⟨z', ez', eq⟩ := lft_cases ez
        cases eq
        obtain ⟨g1, hg1, hz⟩ := Option.bind_eq_some_iff.mp ez'
        have hd : g1 = .bool z := by
          cases g1 <;> first | (cases hz; rfl) | cases hz
        subst hd
        refine ⟨F2, a, b, _, x2.s, w1.mono x2, w2, hg1, fun v3 F3 H3 x3 q3 => ?_⟩
        cases q3
        refine ⟨z, rfl, ?_⟩
        cases z with
        | true =>
          rw [if_pos rfl] at e5 ⊢
          rcases bnd_cases e5 with ⟨k, e6, e7⟩ | ⟨c, e6, rfl⟩
          · refine hc B F0 F3 H3 σ ρ (((R.ext x1).ext x2).ext x3) _ e6 _ (fun d4 ed4 v4 F4 H4 x4 w4 => ?_) (fun c ec => by cases ec)
            cases ed4
            obtain ⟨y, ey, rfl⟩ := lft_cases e7
            exact ⟨F4, b, k, y, x4.s, (w2.mono x3).mono x4, w4, ey, fun v F' H' x q => ok y rfl v F' H' ((((x1.trans x2).trans x3).trans x4).trans x) q⟩
          · exact hc B F0 F3 H3 σ ρ (((R.ext x1).ext x2).ext x3) _ e6 _ (fun d2 ed2 => by cases ed2) (fun c' ec F' H' x => by cases ec; exact ex c rfl F' H' (((x1.trans x2).trans x3).trans x))
        | false =>
          rw [if_neg Bool.false_ne_true] at e5 ⊢
          cases e5
          exact ok _ rfl _ F3 H3 ((x1.trans x2).trans x3) (.bl _)
      · obtain ⟨_, _, q⟩ := lft_cases ec
        cases q
    · exact hb B F0 F1 H1 σ ρ (R.ext x1) _ e3 _ (fun d2 ed2 => by cases ed2) (fun c' ec F' H' x => by cases ec; exact ex c rfl F' H' (x1.trans x))
  · exact ha B F0 F H σ ρ R _ e1 _ (fun d ed => by cases ed) (fun c' ec F' H' x => by cases ec; exact ex c rfl F' H' x)

/-! ### arguments, displays -/
theorem rda_nil : RdA K cl E tNil Dn.aNil := fun B F0 F H σ ρ R r e Q ok ex => by
  cases e
  exact ok [] rfl [] F H (Ext.refl R.fh) .nil
theorem rda_cons {te : TE} {t : TA} {fa : Dn.EF} {fr : Dn.AF} (ha : Rd K cl E te fa) (hr : RdA K cl E t fr) : RdA K cl E (tCons te t) (Dn.aCons fa fr) := fun B F0 F H σ ρ R r e Q ok ex => by
  rcases bnd_cases e with ⟨a, e1, e2⟩ | ⟨c, e1, rfl⟩
  · refine ha B F0 F H σ ρ R _ e1 _ (fun d ed v F1 H1 x1 w1 => ?_) (fun c ec => by cases ec)
    cases ed
    rcases bnd_cases e2 with ⟨b, e3, e4⟩ | ⟨c, e3, rfl⟩
    · refine hr B F0 F1 H1 σ ρ (R.ext x1) _ e3 _ (fun d2 ed2 v2 F2 H2 x2 w2 => ?_) (fun c ec => by cases ec)
      cases ed2
      cases e4
      exact ok _ rfl _ F2 H2 (x1.trans x2) (.cons (Dp_mono x2.f w1) w2)
    · exact hr B F0 F1 H1 σ ρ (R.ext x1) _ e3 _ (fun d2 ed2 => by cases ed2) (fun c' ec F' H' x => by cases ec; exact ex c rfl F' H' (x1.trans x))
  · exact ha B F0 F H σ ρ R _ e1 _ (fun d ed => by cases ed) (fun c' ec F' H' x => by cases ec; exact ex c rfl F' H' x)
theorem line1000 {n : Nat} (h : n ≤ 1000) : n ≤ sizeLine := Nat.le_of_lt (small1000 h)
theorem lineM {n : Nat} (h : n ≤ 1000000) : n < sizeLine := by rw [sizeLine_eq]; omega
theorem rd_tup {t : TA} {fs : Dn.AF} (h : RdA K cl E t fs) : Rd K cl E (tTup t) (Dn.eTup fs) := fun B F0 F H σ ρ R r e Q ok ex => by
  rcases bnd_cases e with ⟨a, e1, e2⟩ | ⟨c, e1, rfl⟩
  · refine h B F0 F H σ ρ R _ e1 _ (fun d ed vs F1 H1 x1 w1 => ?_) (fun c ec => by cases ec)
    cases ed
    split at e2
    · rename_i hl
      cases e2
      refine ⟨by rw [DpAll_len w1]; exact line1000 hl, fun p hp => ok _ rfl _ (upd F1 p (.tup vs)) _ (x1.trans (Ext.fresh x1.s _ hp)) (.tup (SqT.of upd_same) (DpAll_mono (same_upd (x1.s.free hp)) w1))⟩
    · cases e2
  · exact h B F0 F H σ ρ R _ e1 _ (fun d ed => by cases ed) (fun c' ec F' H' x => by cases ec; exact ex c rfl F' H' x)
theorem rdn_lst {t : TA} {fs : Dn.AF} (h : RdA K cl E t fs) : RdN K cl E (tLst t) (Dn.eLst fs) := fun B F0 F H σ ρ R r e Q ok ex => by
  rcases bnd_cases e with ⟨a, e1, e2⟩ | ⟨c, e1, rfl⟩
  · refine h B F0 F H σ ρ R _ e1 _ (fun d ed vs F1 H1 x1 w1 => ?_) (fun c ec => by cases ec)
    cases ed
    split at e2
    · rename_i hl
      cases e2
      refine ⟨by rw [DpAll_len w1]; exact line1000 hl, fun p hp => ok _ rfl p vs a F1 (upd H1 p (.lst vs)) (x1.trans (Ext.freshO x1.s _ hp)) rfl (x1.h.free hp) (x1.s.free hp) upd_same w1⟩
    · cases e2
  · exact h B F0 F H σ ρ R _ e1 _ (fun d ed => by cases ed) (fun c' ec F' H' x => by cases ec; exact ex c rfl F' H' x)

/-! ### defs -/
/-- the promise: g's answer -/
def spF (K : PySem.W.Frag) (cl : Str → Value) (n : Nat) (g : Dn.FF) : Sp := fun vs H Q E => ∃ F ds r, vs.length = n ∧ Same F H ∧ DpAll K F vs ds ∧ g ds = some r ∧
  (∀ d, r = .ok d → ∀ v F' H', Ext F H F' H' → Dp K F' v d → Q v H') ∧ (∀ c, r = .exc c → ∀ H', Same H H' → E (cl c) none H')
theorem rd_call {g : Dn.FF} {t : TA} {n : Nat} {fs : Dn.AF} (h : RdA K cl E t fs) (hn : ∀ ρ ds, fs ρ = some (.ok ds) → ds.length = n) : Rd K cl E (tCall (spF K cl n g) [] E t) (Dn.eCall g fs) := fun B F0 F H σ ρ R r e Q ok ex => by
  rcases bnd_cases e with ⟨a, e1, e2⟩ | ⟨c, e1, rfl⟩
  · refine h B F0 F H σ ρ R _ e1 _ (fun d ed vs F1 H1 x1 w1 => ?_) (fun c ec => by cases ec)
    cases ed
    refine ⟨F1, a, r, ?_, x1.s, by rw [List.append_nil]; exact w1, e2, fun d ed v F' H' x q => ok d ed v F' H' (x1.trans x) q, fun c ec H' x => ex c ec F1 H' (x1.trans ⟨Same.refl _, x1.s.trans x, x, fun _ _ q => .inl q⟩)⟩
    rw [List.append_nil, DpAll_len w1]
    exact hn ρ a e1
  · exact h B F0 F H σ ρ R _ e1 _ (fun d ed => by cases ed) (fun c' ec F' H' x => by cases ec; exact ex c rfl F' H' x)
abbrev noX := Dn.noX
theorem noX_ok {g : Dn.FF} {ds : List PyData} {r : Dn.Rs PyData} (h : noX g ds = some r) : g ds = some r ∧ ∃ d, r = .ok d := by
  unfold noX Dn.noX at h
  split at h
  · cases h
  · rename_i x hx
    refine ⟨h, ?_⟩
    cases r with
    | ok d => exact ⟨d, rfl⟩
    | exc c => exact absurd h (hx c)
/-- a def that lets nothing out -/
theorem rd_call0 {E' : XK} {g : Dn.FF} {t : TA} {n : Nat} {fs : Dn.AF} (h : RdA K cl E t fs) (hn : ∀ ρ ds, fs ρ = some (.ok ds) → ds.length = n) : Rd K cl E (tCall (spF K cl n (noX g)) [] E' t) (Dn.eCall (noX g) fs) := fun B F0 F H σ ρ R r e Q ok ex => by
  rcases bnd_cases e with ⟨a, e1, e2⟩ | ⟨c, e1, rfl⟩
  · refine h B F0 F H σ ρ R _ e1 _ (fun d ed vs F1 H1 x1 w1 => ?_) (fun c ec => by cases ec)
    cases ed
    obtain ⟨_, d0, hd0⟩ := noX_ok e2
    refine ⟨F1, a, r, ?_, x1.s, by rw [List.append_nil]; exact w1, e2, fun d ed v F' H' x q => ok d ed v F' H' (x1.trans x) q, fun c ec => ?_⟩
    · rw [List.append_nil, DpAll_len w1]
      exact hn ρ a e1
    · rw [hd0] at ec; cases ec
  · exact h B F0 F H σ ρ R _ e1 _ (fun d ed => by cases ed) (fun c' ec F' H' x => by cases ec; exact ex c rfl F' H' x)
end
end Dw

set_option maxHeartbeats 4400000
/-! Dv: iterators whose objects are new; iterators that lay a new pair at each turn (by the library's WalksT). -/
namespace Dw
open PySem PySem.Spec PyProof.Rows L2
/-- an iterator has come, all its objects laid behind s -/
theorem pie_new {X : Cx} {pins : List (Addr × Obj)} {σ : L2.St} {H : Hp} {s : Shared} {tg : Expr} {J : It} {fp : List Addr} {it : Addr} {tn : Nat → Heap → Prop} {h1 : Heap} {R : It → Hp → Prop}
    (I : Inv X pins σ H s) (T : Turn X.prog X.w X.K tg J fp it tn) (more : ∀ b o, s.heap.get? b = some o → h1.get? b = some o) (new : ∀ b ∈ fp, s.heap.objs.size ≤ b) (t0 : tn 0 h1) (q : R J H) :
    PIE X pins σ tg R (.ref it) { s with heap := h1 } :=
  ⟨it, fp, tn, J, H, rfl, I.kept (t' := s.toks) more, T, t0, fun b hb => I.fpOk (new b hb) (I.hok.fresh (new b hb)), q⟩
/-- .. one object -/
theorem pie_new1 {X : Cx} {pins : List (Addr × Obj)} {σ : L2.St} {H : Hp} {s : Shared} {tg : Expr} {J : It} {tn : Nat → Heap → Prop} {o : Obj} {R : It → Hp → Prop}
    (I : Inv X pins σ H s) (T : Turn X.prog X.w X.K tg J [s.heap.objs.size] s.heap.objs.size tn) (t0 : tn 0 (s.heap.push o)) (q : R J H) :
    PIE X pins σ tg R (.ref s.heap.objs.size) { s with heap := s.heap.push o } :=
  pie_new I T (fun b ob e => Heap.get?_push_of_some o e) (fun b hb => by rw [List.mem_singleton.mp hb]; exact Nat.le_refl _) t0 q

/-! ### a new pair at each turn -/
/-- n turns over d, which stands in the abstract heap (At): the pairs that row tells -/
def Itp {δ : Type} (At : Hp → δ → Prop) (row : δ → Nat → Option (V × V)) (n : Nat) : It :=
  ⟨fun i H => i < n ∧ ∃ d p, At H d ∧ row d i = some p,
   fun i H v H' => ∃ T p, v = .ref T ∧ H T = none ∧ H' = upd H T (.tup [p.1, p.2]) ∧ ∀ d, At H d → row d i = some p,
   fun i H => n ≤ i ∧ ∃ d, At H d⟩
/-- what stands in the abstract heap is gone through in the heap by a walk of the library's -/
structure Src {δ : Type} (At : Hp → δ → Prop) (row : δ → Nat → Option (V × V)) (n : Nat) (P : Program) (w : World) (A : Around) (it : Addr) (wr : List Addr) (tn : Nat → Heap → Prop) (h : Heap) (d : δ) : Prop where
  walk : ∃ (fw : List Addr) (Pt : Nat → Array Value → Prop) (St : Nat → Heap → Prop) (Mid : Nat → Addr → Heap → Prop), WalksT P w A it fw wr n Pt St Mid ∧ (∀ i, tn i h → St i h) ∧ (∀ i g, i ≤ n → St i g → tn i g) ∧
    ∀ i vals p, row d i = some p → Pt i vals → ∃ u v, vals = #[u, v] ∧ RelV p.1 u ∧ RelV p.2 v
theorem turn_pairs {P : Program} {w : World} {K : PySem.W.Frag} {elts : List Expr} {kk : Nat} {tpos : Pos} {δ : Type} {At : Hp → δ → Prop} {row : δ → Nat → Option (V × V)} {n : Nat} {fp wr : List Addr} {it : Addr} {tn : Nat → Heap → Prop}
    (mem : it ∈ fp) (sub : ∀ b ∈ wr, b ∈ fp) (le : ∀ i h, tn i h → i ≤ n)
    (obj : ∀ i h, tn i h → ∀ b ∈ fp, ∃ o, h.get? b = some o ∧ ∀ v, o.data ≠ .cell v)
    (keep : ∀ i h h', tn i h → (∀ b ∈ fp, ∀ o, h.get? b = some o → h'.get? b = some o) → tn i h')
    (self : ∀ (A : Around) (i : Nat) (s : Shared) (Q : Value → Shared → Prop) (E : Value → Shared → Prop), tn i s.heap → Q (.ref it) s → wpAny (model P w) A (pyIter (.ref it)) Q E s)
    (uni : ∀ (X : Cx) (pins : List (Addr × Obj)) (σ : L2.St) (H : Hp) (s : Shared) (d d' : δ), X.K = K → Inv X pins σ H s → At H d → At H d' → d' = d)
    (src : ∀ (X : Cx), X.K = K → X.calm = true → ∀ (pins : List (Addr × Obj)) (σ : L2.St) (H : Hp) (s : Shared) (d : δ), Inv X pins σ H s → (∀ b ∈ fp, H b = none) → At H d → Src At row n X.prog X.w X.A it wr tn s.heap d) :
    Turn P w K (.Tuple elts kk tpos) (Itp At row n) fp it tn where
  mem := mem
  obj := obj
  keep := keep
  self := self
  item := fun X eP ew eK calm i pins s σ H E I fr st ⟨lt, d, p, hd, hp⟩ => by
    subst eP ew eK
    obtain ⟨fw, Pt, St, Mid, Wk, up, dn, rel⟩ := (src X rfl calm pins σ H s d I (fun b hb => (fr b hb).1) hd).walk
    refine Wk.item i s _ E lt (up i st) fun T vals h1 tk hP far isT mid k1 => ⟨_, rfl, Wk.go elts kk tpos i T { s with heap := h1, toks := tk } _ E mid fun h2 st2 k2 => ?_⟩
    obtain ⟨u, v, rfl, ru, rv⟩ := rel i vals p hp hP
    have isT2 : h2.IsTuple T #[u, v] := isT.at fun o e => k2 T o (Wk.apart i T h1 mid) e
    refine ⟨.ref T, upd H T (.tup [p.1, p.2]), I.turnedNew (t' := tk) (fun b o nb e => k2 b o nb (k1 b o nb e)) (fun b hb => fr b (sub b hb)) far ⟨(by decide : 2 ≤ sizeLine), [u, v], .cons ru (.cons rv .nil), isT2⟩, rfl,
      ⟨T, p, rfl, I.hok.fresh far, rfl, fun d' hd' => by rw [uni X pins σ H s d d' rfl I hd hd']; exact hp⟩, dn (i + 1) h2 lt st2, fun b hb => ?_⟩
    obtain ⟨o, e, _⟩ := obj i s.heap st b hb
    rw [upd_ne (Nat.ne_of_lt (Nat.lt_of_lt_of_le (Heap.lt_size e) far)), (fr b hb).1]
  done := fun X eP ew eK calm i pins s σ H E I fr st ⟨ge, d, hd⟩ => by
    subst eP ew eK
    obtain ⟨fw, Pt, St, Mid, Wk, up, dn, rel⟩ := (src X rfl calm pins σ H s d I (fun b hb => (fr b hb).1) hd).walk
    have at_n : i = n := Nat.le_antisymm (le i _ st) ge
    refine Wk.done s _ E (at_n ▸ up i st) fun h1 tk k1 => ⟨rfl, I.turnedL (t' := tk) k1 fun b hb => fr b (sub b hb)⟩
/-- they walk through the data -/
theorem walk_pairs {K : PySem.W.Frag} {F : Hp} {δ : Type} {At : Hp → δ → Prop} {row : δ → Nat → Option (V × V)} {ds : List PyData} (d : δ) (at_ : ∀ H, Same F H → At H d)
    (rows : ∀ i, i < ds.length → ∃ p x y, row d i = some p ∧ ds[i]? = some (.tuple [x, y]) ∧ Dp K F p.1 x ∧ Dp K F p.2 y) : Walk K (Itp At row ds.length) F ds where
  go := fun i H sm lt => let ⟨p, _, _, hp, _⟩ := rows i lt; ⟨lt, d, p, at_ H sm, hp⟩
  stop := fun i H sm ge => ⟨ge, d, at_ H sm⟩
  yld := fun i F' H x H' s1 s2 ⟨T, p, eT, free, eH, hp⟩ lt => by
    subst eT eH
    obtain ⟨p', x, y, hp', hds, hx, hy⟩ := rows i lt
    obtain rfl : p' = p := Option.some.inj (hp'.symm.trans (hp d (at_ H (s1.trans s2))))
    have sm : Same F (upd F' T (.tup [p'.1, p'.2])) := s1.trans (same_upd (s2.free free))
    exact ⟨_, _, hds, Ext.fresh s2 _ free, .tup (SqT.of upd_same) (.cons (Dp_mono sm hx) (.cons (Dp_mono sm hy) .nil))⟩
/-- data of fields is no cell -/
theorem no_cell {o : Obj} {vs : Array Value} (h : o.data = .fields vs) : ∀ v, o.data ≠ .cell v := fun v e => by rw [h] at e; cases e
end Dw

set_option maxHeartbeats 4400000
/-! Dw2: statements, loops, comprehensions. -/
namespace Dw
open PySem PySem.Spec PyProof.Rows L2
section
variable {K : PySem.W.Frag} {B F0 F H F' H' : Hp} {σ : L2.St} {ρ : Dn.Env}
/-- a list of one's own is changed -/
theorem Rp.updOwn (R : Rp K B F0 F H σ ρ) {i : Nat} {ds ds' : List PyData} {a : Addr} {vs' : List V} (e : ρ[i]? = some (some (.own ds))) (e2 : σ[i]? = some (some (.ref a))) (hB : B a = none) (hF : F a = none) (q : DpAll K F vs' ds') :
    Rp K B F0 F (upd H a (.lst vs')) σ (ρ.set i (some (.own ds'))) := by
  have hl : i < ρ.length := (List.getElem?_eq_some_iff.mp e).1
  have sa : ∀ {G : Hp}, Same G H → G a = none → Same G (upd H a (.lst vs')) := fun {G} s n b o h => by
    rw [upd_ne (ne_of_none h n)]; exact s b o h
  have get : ∀ {j : Nat} {s : Dn.Sl}, (ρ.set i (some (.own ds')))[j]? = some (some s) → (i = j ∧ s = .own ds') ∨ (i ≠ j ∧ ρ[j]? = some (some s)) := fun {j s} h => by
    by_cases hj : i = j
    · subst hj
      rw [List.getElem?_set_self hl] at h
      cases h
      exact .inl ⟨rfl, rfl⟩
    · rw [List.getElem?_set_ne hj] at h
      exact .inr ⟨hj, h⟩
  have nd : ∀ d, Dn.Sl.own ds ≠ .dat d := fun d z => by cases z
  refine ⟨sa R.bh hB, R.ff, sa R.fh hF, R.nb, by rw [List.length_set]; exact R.len, fun j d h => ?_, fun j es h => ?_, fun j es h => ?_, fun j es h => ?_, fun j k b s s' h1 h2 n1 n2 g1 g2 => ?_⟩
  · rcases get h with ⟨_, z⟩ | ⟨_, h⟩
    · cases z
    · exact R.dat j d h
  · rcases get h with ⟨rfl, z⟩ | ⟨hj, h⟩
    · cases z
      exact ⟨a, vs', e2, upd_same, hB, hF, q⟩
    · obtain ⟨b, ws, h1, h2, h3, h4, h5⟩ := R.own j es h
      have hne : b ≠ a := fun z => by
        subst z
        exact hj (R.dist i j b _ _ e h nd (fun d z => by cases z) e2 h1)
      exact ⟨b, ws, h1, by rw [upd_ne hne]; exact h2, h3, h4, h5⟩
  · rcases get h with ⟨rfl, z⟩ | ⟨hj, h⟩
    · cases z
    · obtain ⟨b, ws, h1, h2, h3, h4, h5⟩ := R.ownT j es h
      have hne : b ≠ a := fun z => by
        subst z
        exact hj (R.dist i j b _ _ e h nd (fun d z => by cases z) e2 h1)
      exact ⟨b, ws, h1, by rw [upd_ne hne]; exact h2, h3, h4, h5⟩
  · rcases get h with ⟨rfl, z⟩ | ⟨hj, h⟩
    · cases z
    · exact R.frzT j es h
  · have conv : ∀ {j : Nat} {s : Dn.Sl}, (ρ.set i (some (.own ds')))[j]? = some (some s) → (∀ d, s ≠ .dat d) → ∃ s0 : Dn.Sl, ρ[j]? = some (some s0) ∧ ∀ d, s0 ≠ .dat d := fun {j s} h n => by
      rcases get h with ⟨rfl, z⟩ | ⟨hj, h⟩
      · exact ⟨_, e, nd⟩
      · exact ⟨s, h, n⟩
    obtain ⟨s0, k1, k2⟩ := conv h1 n1
    obtain ⟨s1, k3, k4⟩ := conv h2 n2
    exact R.dist j k b s0 s1 k1 k3 k2 k4 g1 g2
/-- an object that no slot holds is changed -/
theorem Rp.updOut (R : Rp K B F0 F H σ ρ) {a : Addr} (o : HO) (hB : B a = none) (hF : F a = none) (hn : ∀ (i : Nat) (s : Dn.Sl), ρ[i]? = some (some s) → (∀ d, s ≠ .dat d) → σ[i]? ≠ some (some (.ref a))) : Rp K B F0 F (upd H a o) σ ρ := by
  have sa : ∀ {G : Hp}, Same G H → G a = none → Same G (upd H a o) := fun {G} s n b o h => by
    rw [upd_ne (ne_of_none h n)]; exact s b o h
  refine ⟨sa R.bh hB, R.ff, sa R.fh hF, R.nb, R.len, R.dat, fun j es h => ?_, fun j es h => ?_, R.frzT, R.dist⟩
  · obtain ⟨b, ws, h1, h2, h3, h4, h5⟩ := R.own j es h
    have hne : b ≠ a := fun z => by subst z; exact hn j _ h (fun d z => by cases z) h1
    exact ⟨b, ws, h1, by rw [upd_ne hne]; exact h2, h3, h4, h5⟩
  · obtain ⟨b, ws, h1, h2, h3, h4, h5⟩ := R.ownT j es h
    have hne : b ≠ a := fun z => by subst z; exact hn j _ h (fun d z => by cases z) h1
    exact ⟨b, ws, h1, by rw [upd_ne hne]; exact h2, h3, h4, h5⟩
/-- a list of one's own stands still from here on -/
theorem Rp.freeze (R : Rp K B F0 F H σ ρ) {i : Nat} {ds : List PyData} {a : Addr} {vs : List V} (e : ρ[i]? = some (some (.own ds))) (e2 : σ[i]? = some (some (.ref a))) (hH : H a = some (.lst vs)) (hB : B a = none) (hF : F a = none) (q : DpAll K F vs ds) :
    Rp K B F0 (upd F a (.lst vs)) H σ (ρ.set i (some (.dat (.list ds)))) := by
  have hl : i < ρ.length := (List.getElem?_eq_some_iff.mp e).1
  have sF : Same F (upd F a (.lst vs)) := same_upd hF
  have get : ∀ {j : Nat} {s : Dn.Sl}, (ρ.set i (some (.dat (.list ds))))[j]? = some (some s) → (i = j ∧ s = .dat (.list ds)) ∨ (i ≠ j ∧ ρ[j]? = some (some s)) := fun {j s} h => by
    by_cases hj : i = j
    · subst hj
      rw [List.getElem?_set_self hl] at h
      cases h
      exact .inl ⟨rfl, rfl⟩
    · rw [List.getElem?_set_ne hj] at h
      exact .inr ⟨hj, h⟩
  have nd : ∀ d, Dn.Sl.own ds ≠ .dat d := fun d z => by cases z
  refine ⟨R.bh, R.ff.trans sF, fun b o h => ?_, fun b o h => ?_, by rw [List.length_set]; exact R.len, fun j d h => ?_, fun j es h => ?_, fun j es h => ?_, fun j es h => ?_, fun j k b s s' h1 h2 n1 n2 g1 g2 => ?_⟩
  · by_cases hb : b = a
    · subst hb; rw [upd_same] at h; cases h; exact hH
    · rw [upd_ne hb] at h; exact R.fh b o h
  · by_cases hb : b = a
    · subst hb; exact .inr (.inl hB)
    · rw [upd_ne hb] at h; exact R.nb b o h
  · rcases get h with ⟨rfl, z⟩ | ⟨_, h⟩
    · cases z
      exact ⟨.ref a, e2, .lst (SqL.of upd_same) (DpAll_mono sF q)⟩
    · obtain ⟨v, h1, h2⟩ := R.dat j d h
      exact ⟨v, h1, Dp_mono sF h2⟩
  · rcases get h with ⟨rfl, z⟩ | ⟨hj, h⟩
    · cases z
    · obtain ⟨b, ws, h1, h2, h3, h4, h5⟩ := R.own j es h
      have hne : b ≠ a := fun z => by
        subst z
        exact hj (R.dist i j b _ _ e h nd (fun d z => by cases z) e2 h1)
      exact ⟨b, ws, h1, h2, h3, by rw [upd_ne hne]; exact h4, DpAll_mono sF h5⟩
  · rcases get h with ⟨rfl, z⟩ | ⟨hj, h⟩
    · cases z
    · obtain ⟨b, ws, h1, h2, h3, h4, h5⟩ := R.ownT j es h
      have hne : b ≠ a := fun z => by
        subst z
        exact hj (R.dist i j b _ _ e h nd (fun d z => by cases z) e2 h1)
      exact ⟨b, ws, h1, h2, h3, by rw [upd_ne hne]; exact h4, paired_mono h5 fun _ _ q => ⟨q.1, Dp_mono sF q.2⟩⟩
  · rcases get h with ⟨rfl, z⟩ | ⟨hj, h⟩
    · cases z
    · obtain ⟨b, ws, o, h1, h2, h5⟩ := R.frzT j es h
      exact ⟨b, ws, o, h1, h2, paired_mono h5 fun _ _ q => ⟨q.1, Dp_mono sF q.2⟩⟩
  · rcases get h1 with ⟨_, z⟩ | ⟨_, h1⟩
    · exact absurd z (n1 _)
    · rcases get h2 with ⟨_, z⟩ | ⟨_, h2⟩
      · exact absurd z (n2 _)
      · exact R.dist j k b s s' h1 h2 n1 n2 g1 g2
/-- a slot takes a new list -/
theorem Rp.setOwn (R : Rp K B F0 F H σ ρ) {ds : List PyData} {a : Addr} {vs : List V} (hH : H a = some (.lst vs)) (hB : B a = none) (hF : F a = none) (q : DpAll K F vs ds) (hn : ∀ (i : Nat) (s : Dn.Sl), ρ[i]? = some (some s) → (∀ d, s ≠ .dat d) → σ[i]? ≠ some (some (.ref a))) (i : Nat) :
    Rp K B F0 F H (σ.set i (some (.ref a))) (ρ.set i (some (.own ds))) := by
  have get : ∀ {j : Nat} {s : Dn.Sl}, (ρ.set i (some (.own ds)))[j]? = some (some s) → (i = j ∧ s = .own ds ∧ i < ρ.length) ∨ (i ≠ j ∧ ρ[j]? = some (some s)) := fun {j s} h => by
    by_cases hj : i = j
    · subst hj
      have hl : i < ρ.length := by
        obtain ⟨z, _⟩ := List.getElem?_eq_some_iff.mp h
        rw [List.length_set] at z; exact z
      rw [List.getElem?_set_self hl] at h
      cases h
      exact .inl ⟨rfl, rfl, hl⟩
    · rw [List.getElem?_set_ne hj] at h
      exact .inr ⟨hj, h⟩
  have self : i < ρ.length → (σ.set i (some (V.ref a)))[i]? = some (some (V.ref a)) := fun h => List.getElem?_set_self (by rw [R.len]; exact h)
  refine ⟨R.bh, R.ff, R.fh, R.nb, by rw [List.length_set, List.length_set]; exact R.len, fun j d h => ?_, fun j es h => ?_, fun j es h => ?_, fun j es h => ?_, fun j k b s s' h1 h2 n1 n2 g1 g2 => ?_⟩
  · rcases get h with ⟨rfl, z, _⟩ | ⟨hj, h⟩
    · cases z
    · rw [List.getElem?_set_ne hj]; exact R.dat j d h
  · rcases get h with ⟨rfl, z, hl⟩ | ⟨hj, h⟩
    · cases z
      exact ⟨a, vs, self hl, hH, hB, hF, q⟩
    · rw [List.getElem?_set_ne hj]; exact R.own j es h
  · rcases get h with ⟨rfl, z, _⟩ | ⟨hj, h⟩
    · cases z
    · rw [List.getElem?_set_ne hj]; exact R.ownT j es h
  · rcases get h with ⟨rfl, z, _⟩ | ⟨hj, h⟩
    · cases z
    · rw [List.getElem?_set_ne hj]; exact R.frzT j es h
  · rcases get h1 with ⟨rfl, _, hl⟩ | ⟨hj, h1⟩
    · rcases get h2 with ⟨rfl, _, _⟩ | ⟨hk, h2⟩
      · rfl
      · rw [self hl] at g1
        cases g1
        rw [List.getElem?_set_ne hk] at g2
        exact absurd g2 (hn k _ h2 n2)
    · rcases get h2 with ⟨rfl, _, hl⟩ | ⟨hk, h2⟩
      · rw [self hl] at g2
        cases g2
        rw [List.getElem?_set_ne hj] at g1
        exact absurd g1 (hn j _ h1 n1)
      · rw [List.getElem?_set_ne hj] at g1
        rw [List.getElem?_set_ne hk] at g2
        exact R.dist j k b s s' h1 h2 n1 n2 g1 g2
/-- a new address is in no slot that is changed -/
theorem Rp.newOut (R : Rp K B F0 F H σ ρ) {a : Addr} (hn : H a = none) : ∀ (i : Nat) (s : Dn.Sl), ρ[i]? = some (some s) → (∀ d, s ≠ .dat d) → σ[i]? ≠ some (some (.ref a)) := fun i s e n z => by
  cases s with
  | dat d => exact n d rfl
  | own ds =>
    obtain ⟨b, ws, h1, h2, _⟩ := R.own i ds e
    rw [h1] at z
    cases z
    rw [hn] at h2; cases h2
  | ownT ds =>
    obtain ⟨b, ws, h1, h2, _⟩ := R.ownT i ds e
    rw [h1] at z
    cases z
    rw [hn] at h2; cases h2
  | frzT ds =>
    obtain ⟨b, ws, o, h1, h2, _⟩ := R.frzT i ds e
    rw [h1] at z
    cases z
    rw [R.bh _ _ h2] at hn; cases hn
end

section
variable {K : PySem.W.Frag} {cl : Str → Value} {E : XK}
theorem bS_cases {α : Type} {x : Dn.M α} {k : α → Option Dn.SOut} {r : Dn.SOut} (h : Dn.bS x k = some r) : (∃ a, x = some (.ok a) ∧ k a = some r) ∨ ∃ c, x = some (.exc c) ∧ r = .exc c := by
  cases x with
  | none => cases h
  | some y =>
    cases y with
    | ok a => exact .inl ⟨a, rfl, h⟩
    | exc c =>
      have e := Option.some.inj h
      exact .inr ⟨c, rfl, e.symm⟩
theorem Post.unbase {B F0 F1 H1 : Hp} {σ1 : L2.St} {ρ1 : Dn.Env} {D : Ends} {r : Dn.SOut} (R0 : Rp K B F0 F1 H1 σ1 ρ1) (p : Post K cl E B F0 D r) : Post K cl E B F1 D r := by
  cases r with
  | nx ρ' => exact fun F' H' σ' R => p F' H' σ' (R0.unbase R)
  | bk ρ' => exact fun F' H' σ' R => p F' H' σ' (R0.unbase R)
  | ct ρ' => exact fun F' H' σ' R => p F' H' σ' (R0.unbase R)
  | rt d => exact fun v F' H' s1 s2 s3 n q => p v F' H' s1 (R0.ff.trans s2) s3 (fun b o e => (n b o e).elim (R0.nb b o) .inr) q
  | exc c => exact p
theorem rds_next : RdS K cl E tNext Dn.sNx := fun B F0 F H σ ρ R r e D p => by
  cases e
  exact p F H σ R
theorem rds_seq {t u : TS} {f g : Dn.SF} (h1 : RdS K cl E t f) (h2 : RdS K cl E u g) : RdS K cl E (tSeq t u) (Dn.sSeq f g) := fun B F0 F H σ ρ R r e D p => by
  unfold Dn.sSeq at e
  cases hf : f ρ with
  | none => rw [hf] at e; cases e
  | some o =>
    rw [hf] at e
    refine h1 B F0 F H σ ρ R o hf _ ?_
    cases o with
    | nx ρ' => exact fun F' H' σ' R' => h2 B F0 F' H' σ' ρ' R' r e D p
    | rt d => cases e; exact p
    | bk d => cases e; exact p
    | ct d => cases e; exact p
    | exc d => cases e; exact p
theorem rds_if {c : TT} {t u : TS} {fc : Dn.TF} {f g : Dn.SF} (hc : RdT K cl E c fc) (h1 : RdS K cl E t f) (h2 : RdS K cl E u g) : RdS K cl E (tIfS c t u) (Dn.sIf fc f g) := fun B F0 F H σ ρ R r e D p => by
  rcases bS_cases e with ⟨a, e1, e2⟩ | ⟨c, e1, rfl⟩
  · refine hc B F0 F H σ ρ R _ e1 _ (fun b eb F1 H1 x1 => ?_) (fun c ec => by cases ec)
    cases eb
    cases a with
    | true => rw [if_pos rfl] at e2 ⊢; exact h1 B F0 F1 H1 σ ρ (R.ext x1) r e2 D p
    | false => rw [if_neg Bool.false_ne_true] at e2 ⊢; exact h2 B F0 F1 H1 σ ρ (R.ext x1) r e2 D p
  · exact hc B F0 F H σ ρ R _ e1 _ (fun d ed => by cases ed) (fun c' ec F' H' x => by cases ec; exact p H' (R.bh.trans x.h))
theorem rds_ret {t : TE} {f : Dn.EF} (h : Rd K cl E t f) : RdS K cl E (tRet t) (Dn.sRet f) := fun B F0 F H σ ρ R r e D p => by
  rcases bS_cases e with ⟨a, e1, e2⟩ | ⟨c, e1, rfl⟩
  · refine h B F0 F H σ ρ R _ e1 _ (fun d ed v F1 H1 x1 w => ?_) (fun c ec => by cases ec)
    cases ed
    cases e2
    have R1 := R.ext x1
    exact p v F1 H1 R1.bh R1.ff R1.fh R1.nb w
  · exact h B F0 F H σ ρ R _ e1 _ (fun d ed => by cases ed) (fun c' ec F' H' x => by cases ec; exact p H' (R.bh.trans x.h))
theorem rds_retO (i : Nat) : RdS K cl E (tRet (tVar i)) (Dn.sRetO i) := fun B F0 F H σ ρ R r e D p => by
  unfold Dn.sRetO at e
  split at e
  · rename_i ds hd
    cases e
    obtain ⟨a, vs, h1, h2, h3, h4, h5⟩ := R.own i ds hd
    have R1 := R.freeze hd h1 h2 h3 h4 h5
    exact ⟨.ref a, h1, p _ _ H R1.bh R1.ff R1.fh R1.nb (.lst (SqL.of upd_same) (DpAll_mono (same_upd h4) h5))⟩
  · cases e
theorem rds_asg {t : TE} {g : TG} {f : Dn.EF} {fg : Dn.GF} {vs : List Nat} (h : Rd K cl E t f) (hg : RdG K g fg vs) : RdS K cl E (tAsg t g) (Dn.sAsg fg f) := fun B F0 F H σ ρ R r e D p => by
  rcases bS_cases e with ⟨a, e1, e2⟩ | ⟨c, e1, rfl⟩
  · refine h B F0 F H σ ρ R _ e1 _ (fun d ed v F1 H1 x1 w => ?_) (fun c ec => by cases ec)
    cases ed
    obtain ⟨ρ', e3, rfl⟩ := Option.map_eq_some_iff.mp e2
    exact hg B F0 F1 H1 σ ρ v a ρ' (R.ext x1) w e3 _ (fun σ' R' _ => p F1 H1 σ' R')
  · exact h B F0 F H σ ρ R _ e1 _ (fun d ed => by cases ed) (fun c' ec F' H' x => by cases ec; exact p H' (R.bh.trans x.h))
theorem rds_own {t : TE} {f : Dn.EF} (i : Nat) (h : RdN K cl E t f) : RdS K cl E (tAsg t (L2.gName i)) (Dn.sOwn i f) := fun B F0 F H σ ρ R r e D p => by
  rcases bS_cases e with ⟨a, e1, e2⟩ | ⟨c, e1, rfl⟩
  · refine h B F0 F H σ ρ R _ e1 _ (fun d ed b vs ds F1 H1 x1 el na fa ha q => ?_) (fun c ec => by cases ec)
    cases ed
    subst el
    cases e2
    have R1 := R.ext x1
    exact p F1 H1 _ (R1.setOwn ha (R.bh.free na) fa q (R.newOut na) i)
  · exact h B F0 F H σ ρ R _ e1 _ (fun d ed => by cases ed) (fun c' ec F' H' x => by cases ec; exact p H' (R.bh.trans x.h))
theorem rds_move (i j : Nat) : RdS K cl E (tAsg (tVar j) (L2.gName i)) (Dn.sMove i j) := fun B F0 F H σ ρ R r e D p => by
  unfold Dn.sMove at e
  split at e
  · rename_i ds hd
    cases e
    obtain ⟨a, vs, h1, h2, h3, h4, h5⟩ := R.own j ds hd
    have R1 := R.freeze hd h1 h2 h3 h4 h5
    exact ⟨.ref a, h1, p _ H _ (R1.setDat (.lst (SqL.of upd_same) (DpAll_mono (same_upd h4) h5)) i)⟩
  · cases e
theorem rds_app {te : TE} {f : Dn.EF} (i : Nat) (h : Rd K cl E te f) : RdS K cl E (tDrop (tBM K "list" rAppend (tVar i) (tCons te tNil))) (Dn.sApp i f) := fun B F0 F H σ ρ R r e D p => by
  unfold Dn.sApp at e
  split at e
  · rename_i ds hd
    obtain ⟨a, vs, h1, h2, h3, h4, h5⟩ := R.own i ds hd
    refine ⟨.ref a, h1, .inl ⟨rfl, _, SqL.of h2⟩, ?_⟩
    rcases bS_cases e with ⟨d, e1, e2⟩ | ⟨c, e1, rfl⟩
    · refine h B F0 F H σ ρ R _ e1 _ (fun d' ed v F1 H1 x1 w => ?_) (fun c ec => by cases ec)
      cases ed
      split at e2
      · rename_i hlen
        cases e2
        have hl : vs.length = ds.length := DpAll_len h5
        refine ⟨a, vs, v, rfl, rfl, x1.h _ _ h2, by rw [hl]; exact lineM (Nat.le_of_lt hlen), ?_⟩
        exact p F1 _ σ ((R.ext x1).updOwn hd h1 h3 (not_f x1 h2 h4) (DpAll_app (DpAll_mono x1.f h5) (DpAll_one w)))
      · cases e2
    · exact h B F0 F H σ ρ R _ e1 _ (fun d ed => by cases ed) (fun c' ec F' H' x => by cases ec; exact p H' (R.bh.trans x.h))
  · cases e
theorem rds_appOwn (i j : Nat) : RdS K cl E (tDrop (tBM K "list" rAppend (tVar i) (tCons (tVar j) tNil))) (Dn.sAppOwn i j) := fun B F0 F H σ ρ R r e D p => by
  unfold Dn.sAppOwn at e
  split at e
  · rename_i ds es hd he
    split at e
    · rename_i hc
      obtain ⟨hij, hlen⟩ := hc
      cases e
      obtain ⟨a, vs, h1, h2, h3, h4, h5⟩ := R.own i ds hd
      obtain ⟨b, ws, k1, k2, k3, k4, k5⟩ := R.own j es he
      have hl : vs.length = ds.length := DpAll_len h5
      have hne : a ≠ b := fun z => by
        subst z
        exact hij (R.dist i j a _ _ hd he (fun d z => by cases z) (fun d z => by cases z) h1 k1)
      have R1 := R.freeze he k1 k2 k3 k4 k5
      have hd' : (ρ.set j (some (.dat (.list es))))[i]? = some (some (.own ds)) := by
        rw [List.getElem?_set_ne (Ne.symm hij)]; exact hd
      refine ⟨.ref a, h1, .inl ⟨rfl, _, SqL.of h2⟩, .ref b, k1, a, vs, .ref b, rfl, rfl, h2, by rw [hl]; exact lineM (Nat.le_of_lt hlen), ?_⟩
      exact p _ _ σ (R1.updOwn hd' h1 h3 (by rw [upd_ne hne]; exact h4) (DpAll_app (DpAll_mono (same_upd k4) h5) (DpAll_one (.lst (SqL.of upd_same) (DpAll_mono (same_upd k4) k5)))))
    · cases e
  · cases e
theorem rds_ext {te : TE} {f : Dn.EF} (i : Nat) (h : RdN K cl E te f) : RdS K cl E (tDrop (tBM K "list" rExtend (tVar i) (tCons te tNil))) (Dn.sExt i f) := fun B F0 F H σ ρ R r e D p => by
  unfold Dn.sExt at e
  split at e
  · rename_i ds hd
    obtain ⟨a, vs, h1, h2, h3, h4, h5⟩ := R.own i ds hd
    refine ⟨.ref a, h1, .inl ⟨rfl, _, SqL.of h2⟩, ?_⟩
    rcases bS_cases e with ⟨d, e1, e2⟩ | ⟨c, e1, rfl⟩
    · refine h B F0 F H σ ρ R _ e1 _ (fun d' ed b ws es F1 H1 x1 el na fa ha q => ?_) (fun c ec => by cases ec)
      cases ed
      subst el
      simp only at e2
      split at e2
      · rename_i hlen
        cases e2
        have hl : vs.length = ds.length := DpAll_len h5
        have hl2 : ws.length = es.length := DpAll_len q
        refine ⟨a, b, vs, ws, rfl, rfl, x1.h _ _ h2, ha, by rw [hl, hl2]; exact Nat.le_of_lt (lineM hlen), ?_⟩
        exact p F1 _ σ ((R.ext x1).updOwn hd h1 h3 (not_f x1 h2 h4) (DpAll_app (DpAll_mono x1.f h5) q))
      · cases e2
    · exact h B F0 F H σ ρ R _ e1 _ (fun d ed => by cases ed) (fun c' ec F' H' x => by cases ec; exact p H' (R.bh.trans x.h))
  · cases e
theorem ixN_eq (n : Nat) (i : Int) : L2.ixN n i = Dn.ixNat n i := rfl
theorem rds_setIx {tk te : TE} {fk f : Dn.EF} (i : Nat) (h : Rd K cl E te f) (hk : RdW K cl E tk fk) : RdS K cl E (tAsg te (gSub (tVar i) tk rSetL)) (Dn.sSetIx i fk f) := fun B F0 F H σ ρ R r e D p => by
  rcases bS_cases e with ⟨d, e1, e2⟩ | ⟨c, e1, rfl⟩
  · refine h B F0 F H σ ρ R _ e1 _ (fun d' ed v F1 H1 x1 w => ?_) (fun c ec => by cases ec)
    cases ed
    have R1 := R.ext x1
    split at e2
    · rename_i ds hd
      obtain ⟨a, vs, h1, h2, h3, h4, h5⟩ := R.own i ds hd
      refine ⟨.ref a, h1, ?_⟩
      rcases bS_cases e2 with ⟨z, e3, e4⟩ | ⟨c, e3, rfl⟩
      · refine hk B F0 F1 H1 σ ρ R1 _ e3 _ (fun d2 ed2 v2 F2 H2 x2 w2 => ?_) (fun c ec => by cases ec)
        cases ed2
        split at e4
        · rename_i k
          obtain ⟨j, hj, e5⟩ := Option.map_eq_some_iff.mp e4
          subst e5
          have hl : vs.length = ds.length := DpAll_len h5
          have x := x1.trans x2
          refine ⟨a, vs, k, j, rfl, w2.int, x.h _ _ h2, by rw [ixN_eq, hl]; exact hj, ?_⟩
          exact p F2 _ σ ((R1.ext x2).updOwn hd h1 h3 (not_f x h2 h4) (DpAll_set (Dp_mono x2.f w) j (DpAll_mono x.f h5)))
        · cases e4
      · exact hk B F0 F1 H1 σ ρ R1 _ e3 _ (fun d ed => by cases ed) (fun c' ec F' H' x => by cases ec; exact p H' (R1.bh.trans x.h))
    · cases e2
  · exact h B F0 F H σ ρ R _ e1 _ (fun d ed => by cases ed) (fun c' ec F' H' x => by cases ec; exact p H' (R.bh.trans x.h))

/-! ### targets -/
theorem wipe_set {σ : L2.St} {i : Nat} {x : Option V} : ∀ {ws : List Nat}, i ∈ ws → L2.wipe (σ.set i x) ws = L2.wipe σ ws
  | [], h => by cases h
  | w :: ws, h => by
    unfold L2.wipe
    by_cases hw : i ∈ ws
    · rw [wipe_set hw]
    · have e : i = w := by
        rcases List.mem_cons.mp h with z | z
        · exact z
        · exact absurd z hw
      subst e
      have gen : ∀ us : List Nat, i ∉ us → (L2.wipe (σ.set i x) us).set i none = (L2.wipe σ us).set i none := fun us => by
        induction us with
        | nil =>
          intro _
          show (σ.set i x).set i none = σ.set i none
          rw [List.set_set]
        | cons u us ih =>
          intro hu
          have h1 : i ≠ u := fun z => hu (z ▸ List.mem_cons_self)
          have h2 : i ∉ us := fun z => hu (List.mem_cons_of_mem _ z)
          show ((L2.wipe (σ.set i x) us).set u none).set i none = ((L2.wipe σ us).set u none).set i none
          rw [List.set_comm _ _ (Ne.symm h1), ih h2, List.set_comm _ _ h1]
      exact gen ws hw
theorem wipe_wipe {σ : L2.St} : ∀ {vs ws : List Nat}, (∀ i ∈ vs, i ∈ ws) → L2.wipe (L2.wipe σ vs) ws = L2.wipe σ ws
  | [], _, _ => rfl
  | v :: vs, ws, h => by
    show L2.wipe ((L2.wipe σ vs).set v none) ws = L2.wipe σ ws
    rw [wipe_set (h v List.mem_cons_self), wipe_wipe fun i hi => h i (List.mem_cons_of_mem _ hi)]
theorem rdg_name (i : Nat) : RdG K (L2.gName i) (Dn.gName i) [i] := fun B F0 F H σ ρ v d ρ' R q e Q h => by
  cases e
  exact h _ (R.setDat q i) fun ws hw => wipe_set (hw i (List.mem_singleton.mpr rfl))
def RdGs (K : PySem.W.Frag) (t : TGs) (is : List Nat) : Prop := ∀ B F0 F H σ ρ vs ds ρ', Rp K B F0 F H σ ρ → DpAll K F vs ds → Dn.setAll is ds ρ = some ρ' → ∀ Q : L2.St → Hp → Prop,
  (∀ σ', Rp K B F0 F H σ' ρ' → (∀ ws : List Nat, (∀ i ∈ is, i ∈ ws) → L2.wipe σ' ws = L2.wipe σ ws) → Q σ' H) → t vs σ H Q
theorem rdgs_nil : RdGs K gNil [] := fun B F0 F H σ ρ vs ds ρ' R q e Q h => by
  cases q with
  | nil =>
    have e' := Option.some.inj e
    subst e'
    exact ⟨rfl, h σ R fun _ _ => rfl⟩
  | cons _ _ => cases e
theorem rdgs_cons {t : TGs} {is : List Nat} (i : Nat) (h : RdGs K t is) : RdGs K (gCons (L2.gName i) t) (i :: is) := fun B F0 F H σ ρ vs ds ρ' R q e Q k => by
  cases q with
  | nil => cases e
  | cons q1 q2 =>
    refine ⟨_, _, rfl, ?_⟩
    exact h B F0 F H _ _ _ _ ρ' (R.setDat q1 i) q2 e Q fun σ' R' hw => k σ' R' fun ws hi => by
      rw [hw ws fun j hj => hi j (List.mem_cons_of_mem _ hj)]
      exact wipe_set (hi i List.mem_cons_self)
theorem setAll_len : ∀ {is : List Nat} {ds : List PyData} {ρ ρ' : Dn.Env}, Dn.setAll is ds ρ = some ρ' → ds.length = is.length
  | [], [], _, _, _ => rfl
  | i :: is, d :: ds, _, _, h => by
    rw [List.length_cons, List.length_cons, setAll_len (is := is) (ds := ds) h]
  | [], _ :: _, _, _, h => by cases h
  | _ :: _, [], _, _, h => by cases h
theorem rdg_tup {t : TGs} {is : List Nat} {n : Nat} (h : RdGs K t is) (hn : is.length = n := by rfl) : RdG K (L2.gTup K n t) (Dn.gTup is) is := fun B F0 F H σ ρ v d ρ' R q e Q k => by
  cases q with
  | tup hs ha =>
    refine ⟨_, _, rfl, sqt_mono R.fh hs, ?_, h B F0 F H σ ρ _ _ ρ' R ha e Q k⟩
    rw [DpAll_len ha, ← hn]
    exact setAll_len e
  | non => cases e
  | bl b => cases e
  | int i => cases e
  | str x => cases e
  | lst _ _ => cases e

/-! ### loops -/
theorem rds_for {wi : TI} {g : TG} {tb : TS} {fi : Dn.AF} {fg : Dn.GF} {sb : Dn.SF} {gs : List Nat} (hi : RdI K cl E wi fi) (hg : RdG K g fg gs) (hb : RdS K cl E tb sb) : RdS K cl E (tFor wi g tb) (Dn.sFor fi fg sb) := fun B F0 F H σ ρ R r e D p => by
  rcases bS_cases e with ⟨ds, e1, e2⟩ | ⟨c, e1, rfl⟩
  · refine hi B F0 F H σ ρ R _ e1 _ (fun ds' ed J F1 H1 x1 wk => ?_) (fun c ec => by cases ec)
    cases ed
    have R1 := R.ext x1
    have p1 : Post K cl E B F1 D r := p.unbase R1
    refine ⟨fun i m σ' H' => i + m = ds.length ∧ ∃ F' ρ', Rp K B F1 F' H' σ' ρ' ∧ Dn.forL fg sb (ds.drop i) ρ' = some r, ⟨ds.length, by omega, F1, ρ, R1.rebase, e2⟩, ?_⟩
    rintro i m σ' H' ⟨him, F', ρ', R', hf⟩
    by_cases hlt : i < ds.length
    · rw [List.drop_eq_getElem_cons hlt] at hf
      unfold Dn.forL at hf
      cases hg1 : fg ds[i] ρ' with
      | none => rw [hg1] at hf; cases hf
      | some ρ1 =>
        rw [hg1] at hf
        simp only at hf
        cases hb1 : sb ρ1 with
        | none => rw [hb1] at hf; cases hf
        | some o =>
          rw [hb1] at hf
          refine .inr ⟨wk.go i H' (R'.ff.trans R'.fh) hlt, fun σ'' H'' => ∃ F'' ρ'', Rp K B F1 F'' H'' σ'' ρ'' ∧ Dn.forL fg sb (ds.drop (i + 1)) ρ'' = some r, fun σ'' H'' ⟨F'', ρ'', R'', h''⟩ => ⟨m - 1, by omega, by omega, F'', ρ'', R'', h''⟩, fun x H'' hy => ?_⟩
          obtain ⟨d', F'', hd', ex, q⟩ := wk.yld i F' H' x H'' R'.ff R'.fh hy hlt
          have ed : d' = ds[i] := by
            rw [List.getElem?_eq_getElem hlt] at hd'
            exact (Option.some.inj hd').symm
          subst ed
          refine hg B F1 F'' H'' σ' ρ' x _ ρ1 (R'.ext ex) q hg1 _ fun σ2 R2 _ => hb B F1 F'' H'' σ2 ρ1 R2 o hb1 _ ?_
          cases o with
          | nx ρ2 => exact fun F3 H3 σ3 R3 => ⟨F3, ρ2, R3, hf⟩
          | ct ρ2 => exact fun F3 H3 σ3 R3 => ⟨F3, ρ2, R3, hf⟩
          | bk ρ2 =>
            have e3 := Option.some.inj hf
            subst e3
            exact fun F3 H3 σ3 R3 => p1 F3 H3 σ3 R3
          | rt d =>
            have e3 := Option.some.inj hf
            subst e3
            exact p1
          | exc c =>
            have e3 := Option.some.inj hf
            subst e3
            exact p1
    · rw [List.drop_eq_nil_of_le (by omega)] at hf
      have e3 := Option.some.inj hf
      subst e3
      exact .inl ⟨wk.stop i H' (R'.ff.trans R'.fh) (by omega), p1 F' H' σ' R'⟩
  · exact hi B F0 F H σ ρ R _ e1 _ (fun d ed => by cases ed) (fun c' ec F' H' x => by cases ec; exact p H' (R.bh.trans x.h))
theorem rds_while {c : TT} {tb : TS} {fc : Dn.TF} {sb : Dn.SF} (hc : RdT K cl E c fc) (hb : RdS K cl E tb sb) : RdS K cl E (tWhile c tb) (Dn.sWhile fc sb) := fun B F0 F H σ ρ R r e D p => by
  obtain ⟨n, hn⟩ := Dn.of_sWhile e
  refine ⟨fun m σ' H' => ∃ F' ρ', Rp K B F0 F' H' σ' ρ' ∧ Dn.whileN m fc sb ρ' = some r, ⟨n, F, ρ, R, hn⟩, ?_⟩
  rintro m σ' H' ⟨F', ρ', R', hw⟩
  cases m with
  | zero => cases hw
  | succ m =>
    unfold Dn.whileN at hw
    rcases bS_cases hw with ⟨a, e1, e2⟩ | ⟨c, e1, rfl⟩
    · refine hc B F0 F' H' σ' ρ' R' _ e1 _ (fun b eb F1 H1 x1 => ?_) (fun c ec => by cases ec)
      cases eb
      cases a with
      | true =>
        rw [if_pos rfl] at e2 ⊢
        refine ⟨fun σ2 H2 => ∃ F2 ρ2, Rp K B F0 F2 H2 σ2 ρ2 ∧ Dn.whileN m fc sb ρ2 = some r, fun σ2 H2 ⟨F2, ρ2, R2, h2⟩ => ⟨m, Nat.lt_succ_self m, F2, ρ2, R2, h2⟩, ?_⟩
        cases hb1 : sb ρ' with
        | none => rw [hb1] at e2; cases e2
        | some o =>
          rw [hb1] at e2
          refine hb B F0 F1 H1 σ' ρ' (R'.ext x1) o hb1 _ ?_
          cases o with
          | nx ρ2 => exact fun F3 H3 σ3 R3 => ⟨F3, ρ2, R3, e2⟩
          | ct ρ2 => exact fun F3 H3 σ3 R3 => ⟨F3, ρ2, R3, e2⟩
          | bk ρ2 =>
            have e3 := Option.some.inj e2
            subst e3
            exact p
          | rt d =>
            have e3 := Option.some.inj e2
            subst e3
            exact p
          | exc c =>
            have e3 := Option.some.inj e2
            subst e3
            exact p
      | false =>
        rw [if_neg Bool.false_ne_true] at e2 ⊢
        have e3 := Option.some.inj e2
        subst e3
        exact p F1 H1 σ' (R'.ext x1)
    · exact hc B F0 F' H' σ' ρ' R' _ e1 _ (fun d ed => by cases ed) (fun c' ec F2 H2 x => by cases ec; exact p H2 (R'.bh.trans x.h))

/-! ### comprehensions -/
theorem rdn_comp {E2 : XK} {wi : TI} {g : TG} {tt : TT} {te : TE} {vs gs : List Nat} {fi : Dn.AF} {fg : Dn.GF} {ft : Dn.TF} {fe : Dn.EF} (hi : RdI K cl E wi fi) (hg : RdG K g fg gs) (hgs : ∀ i ∈ gs, i ∈ vs) (ht : RdT K cl E2 tt ft) (he : Rd K cl E2 te fe) :
    RdN K cl E (tLc wi g tt te vs) (Dn.eComp fi fg ft fe vs) := fun B F0 F H σ ρ R r e Q ok ex => by
  rcases bnd_cases e with ⟨ds, e1, e2⟩ | ⟨c, e1, rfl⟩
  · refine hi B F0 F H σ ρ R _ e1 _ (fun ds' ed J F1 H1 x1 wk => ?_) (fun c ec => by cases ec)
    cases ed
    have R1 := R.ext x1
    intro A hA
    split at e2
    · rename_i hlen
      rcases bnd_cases e2 with ⟨ys, e3, e4⟩ | ⟨c, e3, rfl⟩
      · cases e4
        have hAB : B A = none := R1.bh.free hA
        have hAF : F1 A = none := x1.s.free hA
        have nA : ∀ (i : Nat) (s : Dn.Sl), (Dn.wipe ρ vs)[i]? = some (some s) → (∀ d, s ≠ .dat d) → (L2.wipe σ vs)[i]? ≠ some (some (.ref A)) := (R1.wipe vs).newOut hA
        refine ⟨fun i m H' => i + m = ds.length ∧ ∃ F' acc zs r', Rp K B F1 F' H' (L2.wipe σ vs) (Dn.wipe ρ vs) ∧ H' A = some (.lst acc) ∧ F' A = none ∧ DpAll K F' acc zs ∧ Dn.compL fg ft fe (Dn.wipe ρ vs) (ds.drop i) = some (.ok r') ∧ zs ++ r' = ys ∧ Same H1 H' ∧ (∀ b o, F' b = some o → F1 b = some o ∨ H1 b = none ∨ ∃ xs, o = .tup xs) ∧ acc.length ≤ i,
          ⟨ds.length, by omega, F1, [], [], ys, ((R1.rebase).wipe vs).updOut _ hAB hAF nA, upd_same, hAF, .nil, e3, rfl, same_upd hA, fun _ _ q => .inl q, Nat.le_refl _⟩, ?_⟩
        rintro i m H' ⟨him, F', acc, zs, r', R', hacc, hFA, hq, hc, hz, sm, nw, hal⟩
        by_cases hlt : i < ds.length
        · rw [List.drop_eq_getElem_cons hlt] at hc
          unfold Dn.compL at hc
          cases hg1 : fg ds[i] (Dn.wipe ρ vs) with
          | none => rw [hg1] at hc; cases hc
          | some ρ1 =>
            rw [hg1] at hc
            simp only at hc
            refine .inr ⟨wk.go i H' (R'.ff.trans R'.fh) hlt, fun H'' => ∃ F' acc zs r', Rp K B F1 F' H'' (L2.wipe σ vs) (Dn.wipe ρ vs) ∧ H'' A = some (.lst acc) ∧ F' A = none ∧ DpAll K F' acc zs ∧ Dn.compL fg ft fe (Dn.wipe ρ vs) (ds.drop (i + 1)) = some (.ok r') ∧ zs ++ r' = ys ∧ Same H1 H'' ∧ (∀ b o, F' b = some o → F1 b = some o ∨ H1 b = none ∨ ∃ xs, o = .tup xs) ∧ acc.length ≤ i + 1,
              fun H'' h'' => ⟨m - 1, by omega, by omega, h''⟩, fun x H2 hy => ?_⟩
            obtain ⟨d', F2, hd', x2, q⟩ := wk.yld i F' H' x H2 R'.ff R'.fh hy hlt
            have ed : d' = ds[i] := by
              rw [List.getElem?_eq_getElem hlt] at hd'
              exact (Option.some.inj hd').symm
            subst ed
            have R2 := R'.ext x2
            refine hg B F1 F2 H2 _ _ x _ ρ1 R2 q hg1 _ fun σ2 R3 hw => ⟨?_, ?_⟩
            · rw [hw vs hgs]
              exact wipe_wipe fun _ h => h
            · cases ht1 : ft ρ1 with
              | none => rw [ht1] at hc; cases hc
              | some o =>
                rw [ht1] at hc
                cases o with
                | exc c => cases hc
                | ok b =>
                  refine ht B F1 F2 H2 σ2 ρ1 R3 _ ht1 _ (fun b' eb F3 H3 x3 => ?_) (fun c ec => by cases ec)
                  cases eb
                  cases b with
                  | true =>
                    rw [if_pos rfl]
                    simp only at hc
                    cases he1 : fe ρ1 with
                    | none => rw [he1] at hc; cases hc
                    | some o =>
                      rw [he1] at hc
                      cases o with
                      | exc c => cases hc
                      | ok y =>
                        rcases bnd_cases hc with ⟨r2, e5, e6⟩ | ⟨c, _, e6⟩
                        · cases e6
                          refine he B F1 F3 H3 σ2 ρ1 (R3.ext x3) _ he1 _ (fun y' ey v F4 H4 x4 q4 => ?_) (fun c ec => by cases ec)
                          cases ey
                          have xx := (x2.trans x3).trans x4
                          have hA4 : H4 A = some (.lst acc) := xx.h _ _ hacc
                          have hF4 : F4 A = none := not_f xx hacc hFA
                          refine ⟨acc, hA4, lineM (by omega), F4, acc ++ [v], zs ++ [y], r2, ((R'.ext xx).updOut _ hAB hF4 nA), upd_same, hF4, DpAll_app (DpAll_mono xx.f hq) (DpAll_one q4), e5, by rw [List.append_assoc]; exact hz, fun b o hb => ?_, fun b o hb => ?_, ?_⟩
                          · have hne : b ≠ A := ne_of_none hb hA
                            rw [upd_ne hne]
                            exact xx.h _ _ (sm b o hb)
                          · rcases xx.n b o hb with z | z | z
                            · exact nw b o z
                            · exact .inr (.inl (sm.free z))
                            · exact .inr (.inr z)
                          · rw [List.length_append, List.length_singleton]
                            omega
                        · cases e6
                  | false =>
                    rw [if_neg Bool.false_ne_true]
                    simp only at hc
                    have xx := x2.trans x3
                    exact ⟨F3, acc, zs, r', R'.ext xx, xx.h _ _ hacc, not_f xx hacc hFA, DpAll_mono xx.f hq, hc, hz, sm.trans xx.h, fun b o hb => by
                      rcases xx.n b o hb with z | z | z
                      · exact nw b o z
                      · exact .inr (.inl (sm.free z))
                      · exact .inr (.inr z), by omega⟩
        · rw [List.drop_eq_nil_of_le (by omega)] at hc
          have e5 : r' = [] := by
            have z := Option.some.inj hc
            cases z; rfl
          subst e5
          rw [List.append_nil] at hz
          subst hz
          refine .inl ⟨wk.stop i H' (R'.ff.trans R'.fh) (by omega), ok _ rfl A acc zs F' H' ⟨x1.f.trans R'.ff, R'.fh, x1.h.trans sm, fun b o hb => ?_⟩ rfl (x1.h.free hA) hFA hacc hq⟩
          rcases nw b o hb with z | z | z
          · exact x1.n b o z
          · exact .inr (.inl (x1.h.free z))
          · exact .inr (.inr z)
      · exact absurd e3 (fun z => by
          have none_exc : ∀ (l : List PyData) (ρ0 : Dn.Env), Dn.compL fg ft fe ρ0 l ≠ some (.exc c) := fun l ρ0 => by
            induction l with
            | nil => intro h; cases h
            | cons d l ih =>
              intro h
              unfold Dn.compL at h
              cases h1 : fg d ρ0 with
              | none => rw [h1] at h; cases h
              | some ρ1 =>
                rw [h1] at h
                simp only at h
                cases h2 : ft ρ1 with
                | none => rw [h2] at h; cases h
                | some o =>
                  rw [h2] at h
                  cases o with
                  | exc c => cases h
                  | ok b =>
                    cases b with
                    | true =>
                      simp only at h
                      cases h3 : fe ρ1 with
                      | none => rw [h3] at h; cases h
                      | some o2 =>
                        rw [h3] at h
                        cases o2 with
                        | exc c => cases h
                        | ok y =>
                          rcases bnd_cases h with ⟨r2, _, e6⟩ | ⟨c', e5, e6⟩
                          · cases e6
                          · cases e6; exact ih e5
                    | false =>
                      simp only at h
                      exact ih h
          exact none_exc _ _ z)
    · cases e2
  · exact hi B F0 F H σ ρ R _ e1 _ (fun d ed => by cases ed) (fun c' ec F' H' x => by cases ec; exact ex c rfl F' H' x)
end
end Dw

set_option maxHeartbeats 4400000
/-! Dw3: the built-in operators and functions, by data. -/
namespace Dw
open PySem PySem.Spec PyProof.Rows L2
section
variable {X : Cx}
theorem DpAll_nil {K : PySem.W.Frag} {F : Hp} {vs : List V} {ds : List PyData} (h : DpAll K F vs ds) (e : vs = []) : ds = [] := by
  subst e
  cases h
  rfl
/-- list + list -/
def rCatS (K : PySem.W.Frag) : R2 := fun x y H Q => ∃ l b xs zs, x = .ref l ∧ y = .ref b ∧ SqL K H l xs ∧ SqL K H b zs ∧ xs.length + zs.length ≤ sizeLine ∧ ∀ p, H p = none → Q (.ref p) (upd H p (.lst (xs ++ zs)))
theorem op_catS : OpR X (binaryOp .Add) (rCatS X.K) := by
  intro pins s σ H x y v u Q I rx ry h
  obtain ⟨l, b, xs, zs, rfl, rfl, hH, hB, hz, q⟩ := h
  cases rx
  cases ry
  obtain ⟨its, r, pl, _⟩ := I.list hH
  obtain ⟨its2, r2, pl2, _⟩ := I.list hB
  obtain ⟨⟨cls, dd, data, sl⟩, ho, hc, n, hd⟩ := pl.isList
  obtain ⟨⟨cls2, dd2, data2, sl2⟩, ho2, hc2, n2, hd2⟩ := pl2.isList
  simp only at hc hd hc2 hd2
  subst hc hd hc2 hd2
  have h1 := r.length
  have h2 := r2.length
  have e : its.toArray ++ its2.toArray = (its ++ its2).toArray := by simp
  refine concat_meets ⟨_, ho, rfl⟩ ⟨_, ho2, rfl⟩ noFill_list_add seq_list_add PySem.F.slot_list_add PySem.F.entry_list_add (PySem.F.args_list_add_2 _ _) (list_addW l b its.toArray its2.toArray n n2 dd dd2 sl sl2 (by simp only [List.size_toArray]; omega)) ⟨ho, ho2, ?_⟩
  rw [e]
  exact ⟨.ref _, _, I.lnew (t' := s.toks) (r.append r2) (by rw [List.length_append]; omega), rfl, q _ I.fresh⟩
theorem op_addX : OpR X (binaryOp .Add) (rD2 X.K Dn.addD) := by
  intro pins s σ H x y v u Q I rx ry h
  obtain ⟨F, d, e, r, hs, wx, wy, hg, q⟩ := h
  unfold Dn.addD at hg
  split at hg
  · rename_i a b
    cases hg
    have h1 := wx.int
    have h2 := wy.int
    subst h1 h2
    exact op_add pins s σ H _ _ v u Q I rx ry ⟨a, b, rfl, rfl, q _ F H (Ext.refl hs) (.int _)⟩
  · rename_i a b
    split at hg
    · rename_i hl
      cases hg
      have h1 := wx.str
      have h2 := wy.str
      subst h1 h2
      exact op_add_str pins s σ H _ _ v u Q I rx ry ⟨a, b, rfl, rfl, hl, q _ F H (Ext.refl hs) (.str _)⟩
    · cases hg
  · rename_i a b
    split at hg
    · rename_i hl
      cases hg
      obtain ⟨p, vs, rfl, h1, h2⟩ := wx.tuple
      obtain ⟨p', ws, rfl, h3, h4⟩ := wy.tuple
      have l1 := DpAll_len h2
      have l2 := DpAll_len h4
      refine op_catA pins s σ H _ _ v u Q I rx ry ⟨p, p', vs, ws, rfl, rfl, sqt_mono hs h1, sqt_mono hs h3, by omega, fun e0 => ?_, fun e0 e1 => ?_, fun e0 e1 t ht => ?_⟩
      · have e2 := DpAll_nil h2 e0
        subst e2
        exact q _ F H (Ext.refl hs) (.tup h3 h4)
      · have e2 := DpAll_nil h4 e1
        subst e2
        rw [List.append_nil] at q
        exact q _ F H (Ext.refl hs) (.tup h1 h2)
      · exact q _ _ _ (Ext.fresh hs _ ht) (.tup (SqT.of upd_same) (DpAll_mono (same_upd (hs.free ht)) (DpAll_app h2 h4)))
    · cases hg
  · rename_i a b
    split at hg
    · rename_i hl
      cases hg
      obtain ⟨p, vs, rfl, h1, h2⟩ := wx.list hs
      obtain ⟨p', ws, rfl, h3, h4⟩ := wy.list hs
      have l1 := DpAll_len h2
      have l2 := DpAll_len h4
      refine op_catS pins s σ H _ _ v u Q I rx ry ⟨p, p', vs, ws, rfl, rfl, h1, h3, by omega, fun t ht => ?_⟩
      exact q _ _ _ (Ext.fresh hs _ ht) (.lst (SqL.of upd_same) (DpAll_mono (same_upd (hs.free ht)) (DpAll_app h2 h4)))
    · cases hg
  · cases hg
theorem op_subX : OpR X (binaryOp .Sub) (rD2 X.K Dn.subD) := by
  intro pins s σ H x y v u Q I rx ry h
  obtain ⟨F, d, e, r, hs, wx, wy, hg, q⟩ := h
  unfold Dn.subD at hg
  split at hg
  · rename_i a b
    cases hg
    have h1 := wx.int
    have h2 := wy.int
    subst h1 h2
    exact op_sub pins s σ H _ _ v u Q I rx ry ⟨a, b, rfl, rfl, q _ F H (Ext.refl hs) (.int _)⟩
  · cases hg
theorem small_of {i : Int} (h : Dn.smallI i = true) : -(2 ^ 64) < i ∧ i < 2 ^ 64 := by
  unfold Dn.smallI at h
  simp only [Bool.and_eq_true, decide_eq_true_eq] at h
  exact h
/-- t * 1 is t -/
theorem tuple_mul1 (l : Addr) (items : Array Value) (n : Nat) (dd : Option Addr) (sl : Array (Option Value)) (u : Tok) :
    Meets (Builtin.«tuple.__mul__» ⟨[.ref l, .int 1 u], []⟩) (fun _ R s => s.heap.get? l = some { cls := .type "tuple", dict := dd, data := .seq items n, slots := sl } ∧
      R (.ok (.ret (Value.ref l))) s) :=
  .of_wp fun prog w A R s h => by
    obtain ⟨hp, g, d, tk, os⟩ := s
    obtain ⟨hl, h⟩ := h
    have f1 := AutoSeq1.idx_int
    wp_walk using wpAny_loadPart' hl
    repeat (first
      | (refine wpAny_ite_false (decide_eq_false (by decide)) ?_; wp_walk using wpAny_loadPart' hl)
      | (refine wpAny_ite_true (decide_eq_true (by simp)) ?_; wp_walk using wpAny_loadPart' hl))
    exact ⟨_, rfl, h⟩
theorem op_rep1 {K : PySem.W.Frag} (hK : X.K = K) : OpR X (binaryOp .Mult) (fun x y H Q => ∃ l xs, x = .ref l ∧ y = .int 1 ∧ SqT K H l xs ∧ Q (.ref l) H) := by
  subst hK
  intro pins s σ H x y v u Q I rx ry h
  obtain ⟨l, xs, rfl, rfl, hT, q⟩ := h
  cases rx
  obtain ⟨t, rfl⟩ := ry
  obtain ⟨its, r, ⟨⟨cls, dd, data, sl⟩, ho, hc, n, hd⟩, hs⟩ := I.tuple hT.l2
  simp only at hc hd
  subst hc hd
  exact wpAny_binaryOp_repeat_ref (T := "tuple") (U := "int") (by decide) ⟨_, ho, rfl⟩ (fun s' => typeIs_int s' 1 t) noFill_tuple_mul F.fills_int_mul F.slot_int_rmul repeat_tuple F.slot_int_index.lookup
    (call_meets F.slot_int_rmul (typeIs_int s 1 t) F.entry_int_rmul (F.args_int_rmul_2 _ _) (int_rmul_tuple 1 t l its.toArray n dd sl)
      ⟨ho, rfl, ⟨_, ho, rfl⟩, call_meets F.slot_tuple_mul ⟨_, ho, rfl⟩ F.entry_tuple_mul (F.args_tuple_mul_2 _ _) (tuple_mul1 l its.toArray n dd sl t) ⟨ho, .ref l, H, I, rfl, q⟩⟩)
theorem op_mulX : OpR X (binaryOp .Mult) (rD2 X.K Dn.mulD) := by
  intro pins s σ H x y v u Q I rx ry h
  obtain ⟨F, d, e, r, hs, wx, wy, hg, q⟩ := h
  unfold Dn.mulD at hg
  split at hg
  · rename_i a b
    split at hg
    · rename_i hb
      cases hg
      have h1 := wx.int
      have h2 := wy.int
      subst h1 h2
      refine op_mul pins s σ H _ _ v u Q I rx ry ⟨a, b, rfl, rfl, ?_, q _ F H (Ext.refl hs) (.int _)⟩
      rcases Bool.or_eq_true_iff.mp hb with z | z
      · exact .inl (small_of z)
      · exact .inr (small_of z)
    · cases hg
  · rename_i a k
    split at hg
    · rename_i hc
      obtain ⟨hk1, hk2, hl, hne⟩ := hc
      cases hg
      obtain ⟨p, vs, rfl, h1, h2⟩ := wx.tuple
      have h3 := wy.int
      subst h3
      have l1 := DpAll_len h2
      by_cases h1k : k = 1
      · subst h1k
        refine op_rep1 rfl pins s σ H _ _ v u Q I rx ry ⟨p, vs, rfl, rfl, sqt_mono hs h1, q _ F H (Ext.refl hs) ?_⟩
        have e1 : Dn.repL (1 : Int).toNat a = a := by
          show (List.replicate 1 a).flatten = a
          simp
        rw [e1]
        exact .tup h1 h2
      · refine op_repT pins s σ H _ _ v u Q I rx ry ⟨p, k, vs, rfl, rfl, sqt_mono hs h1, fun z => hne (DpAll_nil h2 z), by omega, hk2, by omega, fun t ht => ?_⟩
        exact q _ _ _ (Ext.fresh hs _ ht) (.tup (SqT.of upd_same) (DpAll_mono (same_upd (hs.free ht)) (DpAll_rep h2 k.toNat)))
    · cases hg
  · cases hg
theorem op_modX : OpR X (binaryOp .Mod) (rD2 X.K Dn.modD) := by
  intro pins s σ H x y v u Q I rx ry h
  obtain ⟨F, d, e, r, hs, wx, wy, hg, q⟩ := h
  unfold Dn.modD at hg
  split at hg
  · rename_i a b
    split at hg
    · rename_i hb
      cases hg
      have h1 := wx.int
      have h2 := wy.int
      subst h1 h2
      exact op_mod pins s σ H _ _ v u Q I rx ry ⟨a, b, rfl, rfl, hb, q _ F H (Ext.refl hs) (.int _)⟩
    · cases hg
  · cases hg
theorem op_fdivX : OpR X (binaryOp .FloorDiv) (rD2 X.K Dn.fdivD) := by
  intro pins s σ H x y v u Q I rx ry h
  obtain ⟨F, d, e, r, hs, wx, wy, hg, q⟩ := h
  unfold Dn.fdivD at hg
  split at hg
  · rename_i a b
    split at hg
    · rename_i hb
      cases hg
      have h1 := wx.int
      have h2 := wy.int
      subst h1 h2
      exact op_fdiv pins s σ H _ _ v u Q I rx ry ⟨a, b, rfl, rfl, hb, q _ F H (Ext.refl hs) (.int _)⟩
    · cases hg
  · cases hg
theorem op_powX : OpR X (binaryOp .Pow) (rD2 X.K Dn.powD) := by
  intro pins s σ H x y v u Q I rx ry h
  obtain ⟨F, d, e, r, hs, wx, wy, hg, q⟩ := h
  unfold Dn.powD at hg
  split at hg
  · rename_i a b
    split at hg
    · rename_i hb
      cases hg
      have h1 := wx.int
      have h2 := wy.int
      subst h1 h2
      exact op_pow pins s σ H _ _ v u Q I rx ry ⟨a, b, rfl, rfl, ⟨hb.1, by omega, hb.2.2⟩, q _ F H (Ext.refl hs) (.int _)⟩
    · cases hg
  · cases hg
theorem un_negX : UnR X (unaryOp .USub) (rD1 X.K Dn.negD) := by
  intro pins s σ H x v Q I rx h
  obtain ⟨F, d, r, hs, wx, hg, q⟩ := h
  unfold Dn.negD at hg
  split at hg
  · rename_i a
    cases hg
    have h1 := wx.int
    subst h1
    exact un_neg pins s σ H _ v Q I rx ⟨a, rfl, q _ F H (Ext.refl hs) (.int _)⟩
  · cases hg
/-! ### comparisons -/
theorem okD_of {d : PyData} (h : Dn.okD d = true) : d.plain = true ∧ d.depth ≤ 50 := by
  unfold Dn.okD at h
  simp only [Bool.and_eq_true, decide_eq_true_eq] at h
  exact h
theorem op_eqX (hu : X.A.units + 64 < cLine) : OpR X (compareOp .Eq) (rD2 X.K Dn.eqD) := by
  intro pins s σ H x y v u Q I rx ry h
  obtain ⟨F, d, e, r, hs, wx, wy, hg, q⟩ := h
  unfold Dn.eqD at hg
  split at hg
  · rename_i hc
    cases hg
    obtain ⟨c1, c2⟩ := Bool.and_eq_true_iff.mp hc
    obtain ⟨as, r1⟩ := Dp.reads I d x v (wx.dp hs) rx
    obtain ⟨bs, r2⟩ := Dp.reads I e y u (wy.dp hs) ry
    have := (okD_of c1).2
    have := Nat.min_le_left d.depth e.depth
    exact PySem.SeqAt.eq_plain r1 r2 (okD_of c1).1 (okD_of c2).1 (by omega) ⟨.bl _, H, I, rfl, q _ F H (Ext.refl hs) (.bl _)⟩
  · cases hg
theorem op_neX (hu : X.A.units + 64 < cLine) : OpR X (compareOp .NotEq) (rD2 X.K Dn.neD) := by
  intro pins s σ H x y v u Q I rx ry h
  obtain ⟨F, d, e, r, hs, wx, wy, hg, q⟩ := h
  unfold Dn.neD at hg
  split at hg
  · rename_i hc
    cases hg
    obtain ⟨c1, c2⟩ := Bool.and_eq_true_iff.mp hc
    obtain ⟨as, r1⟩ := Dp.reads I d x v (wx.dp hs) rx
    obtain ⟨bs, r2⟩ := Dp.reads I e y u (wy.dp hs) ry
    have := (okD_of c1).2
    have := Nat.min_le_left d.depth e.depth
    exact PySem.SeqAt.ne_plain r1 r2 (okD_of c1).1 (okD_of c2).1 (by omega) ⟨.bl _, H, I, rfl, q _ F H (Ext.refl hs) (.bl _)⟩
  · cases hg
theorem cmpOk_of {a b : PyData} (h : Dn.cmpOk a b = true) : PySem.W.alike a b = true ∧ min a.depth b.depth ≤ 50 ∧ a ≠ .none := by
  unfold Dn.cmpOk at h
  simp only [Bool.and_eq_true, decide_eq_true_eq] at h
  refine ⟨h.1.1, h.1.2, fun z => ?_⟩
  subst z
  have := h.2
  cases this
theorem op_ltX (hu : X.A.units + 64 < cLine) : OpR X (compareOp .Lt) (rD2 X.K Dn.ltD) := by
  intro pins s σ H x y v u Q I rx ry h
  obtain ⟨F, d, e, r, hs, wx, wy, hg, q⟩ := h
  unfold Dn.ltD at hg
  split at hg
  · rename_i hc
    cases hg
    obtain ⟨c1, c2, c3⟩ := cmpOk_of hc
    obtain ⟨as, r1⟩ := Dp.reads I d x v (wx.dp hs) rx
    obtain ⟨bs, r2⟩ := Dp.reads I e y u (wy.dp hs) ry
    exact PySem.W.lt_data r1 r2 c1 c3 (by omega) ⟨.bl _, H, I, rfl, q _ F H (Ext.refl hs) (.bl _)⟩
  · cases hg
theorem op_gtX (hu : X.A.units + 64 < cLine) : OpR X (compareOp .Gt) (rD2 X.K Dn.gtD) := by
  intro pins s σ H x y v u Q I rx ry h
  obtain ⟨F, d, e, r, hs, wx, wy, hg, q⟩ := h
  unfold Dn.gtD at hg
  split at hg
  · rename_i hc
    cases hg
    obtain ⟨c1, c2, c3⟩ := cmpOk_of hc
    obtain ⟨as, r1⟩ := Dp.reads I d x v (wx.dp hs) rx
    obtain ⟨bs, r2⟩ := Dp.reads I e y u (wy.dp hs) ry
    exact PySem.W.gt_data r1 r2 c1 c3 (by omega) ⟨.bl _, H, I, rfl, q _ F H (Ext.refl hs) (.bl _)⟩
  · cases hg
theorem op_leX (hu : X.A.units + 64 < cLine) : OpR X (compareOp .LtE) (rD2 X.K Dn.leD) := by
  intro pins s σ H x y v u Q I rx ry h
  obtain ⟨F, d, e, r, hs, wx, wy, hg, q⟩ := h
  unfold Dn.leD at hg
  split at hg
  · rename_i hc
    cases hg
    obtain ⟨c1, c2, c3⟩ := cmpOk_of hc
    obtain ⟨as, r1⟩ := Dp.reads I d x v (wx.dp hs) rx
    obtain ⟨bs, r2⟩ := Dp.reads I e y u (wy.dp hs) ry
    exact PySem.W.le_data r1 r2 c1 c3 (by omega) ⟨.bl _, H, I, rfl, q _ F H (Ext.refl hs) (.bl _)⟩
  · cases hg
theorem op_geX (hu : X.A.units + 64 < cLine) : OpR X (compareOp .GtE) (rD2 X.K Dn.geD) := by
  intro pins s σ H x y v u Q I rx ry h
  obtain ⟨F, d, e, r, hs, wx, wy, hg, q⟩ := h
  unfold Dn.geD at hg
  split at hg
  · rename_i hc
    cases hg
    obtain ⟨c1, c2, c3⟩ := cmpOk_of hc
    obtain ⟨as, r1⟩ := Dp.reads I d x v (wx.dp hs) rx
    obtain ⟨bs, r2⟩ := Dp.reads I e y u (wy.dp hs) ry
    exact PySem.W.ge_data r1 r2 c1 c3 (by omega) ⟨.bl _, H, I, rfl, q _ F H (Ext.refl hs) (.bl _)⟩
  · cases hg
theorem op_inX (hu : X.A.units + 64 < cLine) : OpR X (compareOp .In) (rD2 X.K Dn.inD) := by
  intro pins s σ H x y v u Q I rx ry h
  obtain ⟨F, d, e, r, hs, wx, wy, hg, q⟩ := h
  unfold Dn.inD at hg
  split at hg
  · rename_i xs
    split at hg
    · rename_i hc
      cases hg
      obtain ⟨c1, c2⟩ := Bool.and_eq_true_iff.mp hc
      obtain ⟨as, r1⟩ := Dp.reads I d x v (wx.dp hs) rx
      obtain ⟨bs, r2⟩ := Dp.reads I _ y u (wy.dp hs) ry
      have := (okD_of c2).2
      have := Nat.min_le_right (PyData.depthAll xs) d.depth
      exact PySem.SeqAt.in_list_data r2 r1 c1 (okD_of c2).1 (by omega) ⟨.bl _, H, I, rfl, q _ F H (Ext.refl hs) (.bl _)⟩
    · cases hg
  · rename_i xs
    split at hg
    · rename_i hc
      cases hg
      obtain ⟨c1, c2⟩ := Bool.and_eq_true_iff.mp hc
      obtain ⟨as, r1⟩ := Dp.reads I d x v (wx.dp hs) rx
      obtain ⟨bs, r2⟩ := Dp.reads I _ y u (wy.dp hs) ry
      have := (okD_of c2).2
      have := Nat.min_le_right (PyData.depthAll xs) d.depth
      exact PySem.SeqAt.in_tuple_data r2 r1 c1 (okD_of c2).1 (by omega) ⟨.bl _, H, I, rfl, q _ F H (Ext.refl hs) (.bl _)⟩
    · cases hg
  · rename_i i j
    cases hg
    have h1 := wx.str
    have h2 := wy.str
    subst h1 h2
    exact op_in_str pins s σ H _ _ v u Q I rx ry ⟨i, j, rfl, rfl, q _ F H (Ext.refl hs) (.bl _)⟩
  · cases hg
theorem op_notInX (hu : X.A.units + 64 < cLine) : OpR X (compareOp .NotIn) (rD2 X.K Dn.inN) := by
  intro pins s σ H x y v u Q I rx ry h
  obtain ⟨F, d, e, r, hs, wx, wy, hg, q⟩ := h
  obtain ⟨r0, hg0, hn⟩ := Option.bind_eq_some_iff.mp hg
  clear hg
  unfold Dn.inD at hg0
  have hg := hg0
  clear hg0
  split at hg
  · rename_i xs
    split at hg
    · rename_i hc
      cases hg
      cases hn
      obtain ⟨c1, c2⟩ := Bool.and_eq_true_iff.mp hc
      obtain ⟨as, r1⟩ := Dp.reads I d x v (wx.dp hs) rx
      obtain ⟨bs, r2⟩ := Dp.reads I _ y u (wy.dp hs) ry
      have := (okD_of c2).2
      have := Nat.min_le_right (PyData.depthAll xs) d.depth
      exact PySem.SeqAt.notIn_list_data r2 r1 c1 (okD_of c2).1 (by omega) ⟨.bl _, H, I, rfl, q _ F H (Ext.refl hs) (.bl _)⟩
    · cases hg
  · rename_i xs
    split at hg
    · rename_i hc
      cases hg
      cases hn
      obtain ⟨c1, c2⟩ := Bool.and_eq_true_iff.mp hc
      obtain ⟨as, r1⟩ := Dp.reads I d x v (wx.dp hs) rx
      obtain ⟨bs, r2⟩ := Dp.reads I _ y u (wy.dp hs) ry
      have := (okD_of c2).2
      have := Nat.min_le_right (PyData.depthAll xs) d.depth
      exact PySem.SeqAt.notIn_tuple_data r2 r1 c1 (okD_of c2).1 (by omega) ⟨.bl _, H, I, rfl, q _ F H (Ext.refl hs) (.bl _)⟩
    · cases hg
  · rename_i i j
    cases hg
    cases hn
    have h1 := wx.str
    have h2 := wy.str
    subst h1 h2
    exact L2.op_notin_str pins s σ H _ _ v u Q I rx ry ⟨i, j, rfl, rfl, q _ F H (Ext.refl hs) (.bl _)⟩
  · cases hg

/-! ### built-in functions -/
theorem W.seq {K : PySem.W.Frag} {F H : Hp} {v : V} {d : PyData} {ds : List PyData} (s : Same F H) (w : W K F H v d) (e : Dn.seqOf d = some ds) : ∃ a vs, v = .ref a ∧ ((d = .list ds ∧ SqL K H a vs) ∨ (d = .tuple ds ∧ SqT K F a vs)) ∧ DpAll K F vs ds := by
  cases d with
  | list xs =>
    cases e
    obtain ⟨a, vs, h1, h2, h3⟩ := w.list s
    exact ⟨a, vs, h1, .inl ⟨rfl, h2⟩, h3⟩
  | tuple xs =>
    cases e
    obtain ⟨a, vs, h1, h2, h3⟩ := w.tuple
    exact ⟨a, vs, h1, .inr ⟨rfl, h2⟩, h3⟩
  | none => cases e
  | bool b => cases e
  | int b => cases e
  | str b => cases e
  | dict b => cases e
theorem cr_lenX : CallR X (.builtin "len") (rDC1 X.K Dn.lenD) := by
  intro pins s σ H xs us Q I r h
  obtain ⟨x, rfl, F, d, z, hs, wx, hg, q⟩ := h
  unfold Dn.lenD at hg
  split at hg
  · cases hg
    obtain ⟨p, vs, rfl, h1, h2⟩ := wx.list hs
    refine call_len_seq pins s σ H _ us Q I r ⟨p, vs, rfl, .inl h1, ?_⟩
    rw [DpAll_len h2]
    exact q _ F H (Ext.refl hs) (.int _)
  · cases hg
    obtain ⟨p, vs, rfl, h1, h2⟩ := wx.tuple
    refine call_len_seq pins s σ H _ us Q I r ⟨p, vs, rfl, .inr (sqt_mono hs h1), ?_⟩
    rw [DpAll_len h2]
    exact q _ F H (Ext.refl hs) (.int _)
  · split at hg
    · rename_i hl
      cases hg
      have h1 := wx.str
      subst h1
      exact call_len_str pins s σ H _ us Q I r ⟨_, rfl, hl, q _ F H (Ext.refl hs) (.int _)⟩
    · cases hg
  · cases hg
end
/-- a built-in that makes a new list -/
def rN1 (K : PySem.W.Frag) (g : PyData → Option PyData) : List V → Hp → VK → Prop := fun xs H Q => ∃ x F d ds, xs = [x] ∧ Same F H ∧ W K F H x d ∧ g d = some (.list ds) ∧
  ∀ a vs F' H', Ext F H F' H' → H a = none → F' a = none → H' a = some (.lst vs) → DpAll K F' vs ds → Q (.ref a) H'
theorem rdn_b1 {K : PySem.W.Frag} {cl : Str → Value} {E : XK} {g : PyData → Option PyData} {ta : TE} {fa : Dn.EF} (hl : ∀ d r, g d = some r → ∃ ds, r = .list ds) (ha : RdW K cl E ta fa) : RdN K cl E (tCB (rN1 K g) (tCons ta tNil)) (Dn.e1 g fa) := fun B F0 F H σ ρ R r e Q ok ex => by
  rcases bnd_cases e with ⟨a, e1, e2⟩ | ⟨c, e1, rfl⟩
  · refine ha B F0 F H σ ρ R _ e1 _ (fun d ed v F1 H1 x1 w1 => ?_) (fun c ec => by cases ec)
    cases ed
    obtain ⟨z, ez, rfl⟩ := lft_cases e2
    obtain ⟨ds, rfl⟩ := hl _ _ ez
    exact ⟨v, F1, a, ds, rfl, x1.s, w1, ez, fun a vs F' H' x na fa' ha' q => ok _ rfl a vs ds F' H' (x1.trans x) rfl (x1.h.free na) fa' ha' q⟩
  · exact ha B F0 F H σ ρ R _ e1 _ (fun d ed => by cases ed) (fun c' ec F' H' x => by cases ec; exact ex c rfl F' H' x)
theorem lstD_list : ∀ d r, Dn.lstD d = some r → ∃ ds, r = .list ds := fun d r h => by
  obtain ⟨xs, _, e⟩ := Option.map_eq_some_iff.mp h
  exact ⟨xs, e.symm⟩
theorem sortD_list : ∀ d r, Dn.sortD d = some r → ∃ ds, r = .list ds := fun d r h => by
  obtain ⟨xs, _, e⟩ := Option.bind_eq_some_iff.mp h
  split at e
  · exact ⟨_, (Option.some.inj e).symm⟩
  · cases e
section
variable {X : Cx}
theorem cr_listX : CallR X (.type "list") (rN1 X.K Dn.lstD) := by
  intro pins s σ H xs us Q I r h
  obtain ⟨x, F, d, ds, rfl, hs, wx, hg, q⟩ := h
  obtain ⟨zs, hz, e⟩ := Option.map_eq_some_iff.mp hg
  cases e
  obtain ⟨a, vs, rfl, hc, hq⟩ := wx.seq hs hz
  refine call_list_of pins s σ H _ us Q I r ⟨a, vs, rfl, ?_, fun l hl => q l vs F _ (Ext.freshO hs _ hl) hl (hs.free hl) upd_same hq⟩
  rcases hc with ⟨_, h⟩ | ⟨_, h⟩
  · exact .inl h
  · exact .inr (sqt_mono hs h)
theorem cr_tupX : CallR X (.type "tuple") (rDC1 X.K Dn.tupD) := by
  intro pins s σ H xs us Q I r h
  obtain ⟨x, rfl, F, d, z, hs, wx, hg, q⟩ := h
  obtain ⟨zs, hz, e⟩ := Option.map_eq_some_iff.mp hg
  cases e
  obtain ⟨a, vs, rfl, hc, hq⟩ := wx.seq hs hz
  refine call_tuple_of pins s σ H _ us Q I r ⟨a, vs, rfl, ?_⟩
  rcases hc with ⟨_, h⟩ | ⟨_, h⟩
  · exact .inl ⟨h, fun l hl => q _ _ _ (Ext.fresh hs _ hl) (.tup (SqT.of upd_same) (DpAll_mono (same_upd (hs.free hl)) hq))⟩
  · exact .inr ⟨sqt_mono hs h, q _ F H (Ext.refl hs) (.tup h hq)⟩
theorem cr_sumX (hc : X.calm = true) : CallR X (.builtin "sum") (rDC1 X.K Dn.sumD) := by
  intro pins s σ H xs us Q I r h
  obtain ⟨x, rfl, F, d, z, hs, wx, hg, q⟩ := h
  obtain ⟨zs, hz, e⟩ := Option.bind_eq_some_iff.mp hg
  cases d with
  | list ds =>
    cases hz
    obtain ⟨ns, hn, e⟩ := Option.map_eq_some_iff.mp e
    cases e
    obtain ⟨a, vs, rfl, h1, h2⟩ := wx.list hs
    have ev := DpAll_ints h2 hn
    subst ev
    exact cr_sum hc pins s σ H _ us Q I r ⟨a, ns, rfl, h1, q _ F H (Ext.refl hs) (.int _)⟩
  | _ => cases hz
theorem cr_allX (hc : X.calm = true) : CallR X (.builtin "all") (rDC1 X.K Dn.allD) := by
  intro pins s σ H xs us Q I r h
  obtain ⟨x, rfl, F, d, z, hs, wx, hg, q⟩ := h
  obtain ⟨zs, hz, e⟩ := Option.bind_eq_some_iff.mp hg
  cases d with
  | list ds =>
    cases hz
    obtain ⟨ns, hn, e⟩ := Option.map_eq_some_iff.mp e
    cases e
    obtain ⟨a, vs, rfl, h1, h2⟩ := wx.list hs
    have ev := DpAll_bls h2 hn
    subst ev
    exact cr_all hc pins s σ H _ us Q I r ⟨a, ns, rfl, h1, q _ F H (Ext.refl hs) (.bl _)⟩
  | _ => cases hz
theorem cr_anyX (hc : X.calm = true) : CallR X (.builtin "any") (rDC1 X.K Dn.anyD) := by
  intro pins s σ H xs us Q I r h
  obtain ⟨x, rfl, F, d, z, hs, wx, hg, q⟩ := h
  obtain ⟨zs, hz, e⟩ := Option.bind_eq_some_iff.mp hg
  cases d with
  | list ds =>
    cases hz
    obtain ⟨ns, hn, e⟩ := Option.map_eq_some_iff.mp e
    cases e
    obtain ⟨a, vs, rfl, h1, h2⟩ := wx.list hs
    have ev := DpAll_bls h2 hn
    subst ev
    exact cr_any hc pins s σ H _ us Q I r ⟨a, ns, rfl, h1, q _ F H (Ext.refl hs) (.bl _)⟩
  | _ => cases hz
theorem foldl_max : ∀ (r : List Int) (x : Int), r.foldl max x ∈ x :: r ∧ ∀ y ∈ x :: r, y ≤ r.foldl max x
  | [], x => ⟨List.mem_cons_self, fun y h => by
      rcases List.mem_cons.mp h with h | h
      · exact Int.le_of_eq h
      · cases h⟩
  | z :: r, x => by
    obtain ⟨h1, h2⟩ := foldl_max r (max x z)
    refine ⟨?_, fun y h => ?_⟩
    · show r.foldl max (max x z) ∈ _
      rcases List.mem_cons.mp h1 with h | h
      · rw [h]
        rcases Int.le_total x z with q | q
        · rw [Int.max_eq_right q]; exact List.mem_cons_of_mem _ List.mem_cons_self
        · rw [Int.max_eq_left q]; exact List.mem_cons_self
      · exact List.mem_cons_of_mem _ (List.mem_cons_of_mem _ h)
    · show y ≤ r.foldl max (max x z)
      have hm := h2 _ List.mem_cons_self
      rcases List.mem_cons.mp h with h | h
      · exact Int.le_trans (by rw [h]; exact Int.le_max_left _ _) hm
      · rcases List.mem_cons.mp h with h | h
        · exact Int.le_trans (by rw [h]; exact Int.le_max_right _ _) hm
        · exact h2 y (List.mem_cons_of_mem _ h)
theorem foldl_min : ∀ (r : List Int) (x : Int), r.foldl min x ∈ x :: r ∧ ∀ y ∈ x :: r, r.foldl min x ≤ y
  | [], x => ⟨List.mem_cons_self, fun y h => by
      rcases List.mem_cons.mp h with h | h
      · exact Int.le_of_eq h.symm
      · cases h⟩
  | z :: r, x => by
    obtain ⟨h1, h2⟩ := foldl_min r (min x z)
    refine ⟨?_, fun y h => ?_⟩
    · show r.foldl min (min x z) ∈ _
      rcases List.mem_cons.mp h1 with h | h
      · rw [h]
        rcases Int.le_total x z with q | q
        · rw [Int.min_eq_left q]; exact List.mem_cons_self
        · rw [Int.min_eq_right q]; exact List.mem_cons_of_mem _ List.mem_cons_self
      · exact List.mem_cons_of_mem _ (List.mem_cons_of_mem _ h)
    · show r.foldl min (min x z) ≤ y
      have hm := h2 _ List.mem_cons_self
      rcases List.mem_cons.mp h with h | h
      · exact Int.le_trans hm (by rw [h]; exact Int.min_le_left _ _)
      · rcases List.mem_cons.mp h with h | h
        · exact Int.le_trans hm (by rw [h]; exact Int.min_le_right _ _)
        · exact h2 y (List.mem_cons_of_mem _ h)
theorem cr_max1X (hc : X.calm = true) : CallR X (.builtin "max") (rDC1 X.K Dn.max1D) := by
  intro pins s σ H xs us Q I r h
  obtain ⟨x, rfl, F, d, z, hs, wx, hg, q⟩ := h
  obtain ⟨zs, hz, e⟩ := Option.bind_eq_some_iff.mp hg
  cases d with
  | list ds =>
    cases hz
    obtain ⟨ns, hn, e⟩ := Option.bind_eq_some_iff.mp e
    obtain ⟨m, hm, e⟩ := Option.map_eq_some_iff.mp e
    cases e
    obtain ⟨a, vs, rfl, h1, h2⟩ := wx.list hs
    have ev := DpAll_ints h2 hn
    subst ev
    cases ns with
    | nil => cases hm
    | cons n r' =>
      cases hm
      refine cr_max hc pins s σ H _ us Q I r ⟨a, n :: r', rfl, h1, Nat.succ_pos _, fun m hm1 hm2 => ?_⟩
      have e : m = r'.foldl max n := Int.le_antisymm ((foldl_max r' n).2 m hm1) (hm2 _ (foldl_max r' n).1)
      subst e
      exact q _ F H (Ext.refl hs) (.int _)
  | _ => cases hz
theorem cr_min1X (hc : X.calm = true) : CallR X (.builtin "min") (rDC1 X.K Dn.min1D) := by
  intro pins s σ H xs us Q I r h
  obtain ⟨x, rfl, F, d, z, hs, wx, hg, q⟩ := h
  obtain ⟨zs, hz, e⟩ := Option.bind_eq_some_iff.mp hg
  cases d with
  | list ds =>
    cases hz
    obtain ⟨ns, hn, e⟩ := Option.bind_eq_some_iff.mp e
    obtain ⟨m, hm, e⟩ := Option.map_eq_some_iff.mp e
    cases e
    obtain ⟨a, vs, rfl, h1, h2⟩ := wx.list hs
    have ev := DpAll_ints h2 hn
    subst ev
    cases ns with
    | nil => cases hm
    | cons n r' =>
      cases hm
      refine cr_min hc pins s σ H _ us Q I r ⟨a, n :: r', rfl, h1, Nat.succ_pos _, fun m hm1 hm2 => ?_⟩
      have e : m = r'.foldl min n := Int.le_antisymm (hm2 _ (foldl_min r' n).1) ((foldl_min r' n).2 m hm1)
      subst e
      exact q _ F H (Ext.refl hs) (.int _)
  | _ => cases hz
theorem cr_max2X (hc : X.calm = true) : CallR X (.builtin "max") (rDC2 X.K Dn.max2D) := by
  intro pins s σ H xs us Q I r h
  obtain ⟨x, y, rfl, F, d, e, z, hs, wx, wy, hg, q⟩ := h
  unfold Dn.max2D at hg
  split at hg
  · rename_i a b
    cases hg
    have h1 := wx.int
    have h2 := wy.int
    subst h1 h2
    exact call_max2 hc pins s σ H _ us Q I r ⟨a, b, rfl, q _ F H (Ext.refl hs) (.int _)⟩
  · cases hg
theorem cr_min2X (hc : X.calm = true) : CallR X (.builtin "min") (rDC2 X.K Dn.min2D) := by
  intro pins s σ H xs us Q I r h
  obtain ⟨x, y, rfl, F, d, e, z, hs, wx, wy, hg, q⟩ := h
  unfold Dn.min2D at hg
  split at hg
  · rename_i a b
    cases hg
    have h1 := wx.int
    have h2 := wy.int
    subst h1 h2
    exact call_min2 hc pins s σ H _ us Q I r ⟨a, b, rfl, q _ F H (Ext.refl hs) (.int _)⟩
  · cases hg
theorem cr_intX : CallR X (.type "int") (rDC1 X.K Dn.intD) := by
  intro pins s σ H xs us Q I r h
  obtain ⟨x, rfl, F, d, z, hs, wx, hg, q⟩ := h
  unfold Dn.intD at hg
  split at hg
  · cases hg
    have h1 := wx.int
    subst h1
    exact call_int1 pins s σ H _ us Q I r (.inl ⟨_, rfl, q _ F H (Ext.refl hs) (.int _)⟩)
  · cases hg
    have h1 := wx.bl
    subst h1
    exact call_int1 pins s σ H _ us Q I r (.inr ⟨_, rfl, q _ F H (Ext.refl hs) (.int _)⟩)
  · split at hg
    · rename_i hl
      obtain ⟨n, hn, e⟩ := Option.map_eq_some_iff.mp hg
      cases e
      have h1 := wx.str
      subst h1
      exact call_int_str pins s σ H _ us Q I r ⟨_, n, rfl, hn, hl, q _ F H (Ext.refl hs) (.int _)⟩
    · cases hg
  · cases hg
theorem cr_strX : CallR X (.type "str") (rDC1 X.K Dn.strD) := by
  intro pins s σ H xs us Q I r h
  obtain ⟨x, rfl, F, d, z, hs, wx, hg, q⟩ := h
  unfold Dn.strD at hg
  split at hg
  · split at hg
    · rename_i hl
      cases hg
      have h1 := wx.int
      subst h1
      exact call_str_int pins s σ H _ us Q I r ⟨_, rfl, hl, q _ F H (Ext.refl hs) (.str _)⟩
    · cases hg
  · cases hg
/-! isinstance with a built-in class -/
def isiTy : Nat → String
  | 0 => "int"
  | 1 => "bool"
  | 2 => "tuple"
  | _ => "str"
def rIsiD (K : PySem.W.Frag) (k : Nat) : List V → Hp → VK → Prop := fun xs H Q => ∃ x F d r, xs = [x, .ty (isiTy k)] ∧ Same F H ∧ W K F H x d ∧ Dn.isiD k d = some (.bool r) ∧ Q (.bl r) H
theorem sql_ty {K : PySem.W.Frag} {H : Hp} {a : Addr} {xs : List V} (h : SqL K H a xs) : TyX K H (.ref a) (.type "list") := by
  rcases h with (h | ⟨o, h⟩) | ⟨o, its, n, hk, hc, _⟩
  · exact .base (.lst h)
  · exact .base (.frz h)
  · exact .kList hk hc
theorem sqt_ty {K : PySem.W.Frag} {H : Hp} {a : Addr} {xs : List V} (h : SqT K H a xs) : TyX K H (.ref a) (.type "tuple") := .base (.tup h)
theorem cr_isiX (k : Nat) (hk : k < 4) : CallR X (.builtin "isinstance") (rIsiD X.K k) := by
  intro pins s σ H xs us Q I r h
  obtain ⟨x, F, d, z, rfl, hs, wx, hg, q⟩ := h
  have go : ∀ (t : String) (b : Bool), TyX X.K H x (.type t) → kitB t (isiTy k) = some b → z = b → wpAny (model X.prog X.w) X.A (call (.builtin "isinstance") us) (EP X pins σ Q) X.xe s := fun t b ty hb e => by
    subst e
    exact call_isi pins s σ H _ us Q I r ⟨x, .ty (isiTy k), _, _, z, rfl, .ty _, ty, kit_ty hb, q⟩
  have h4 : k = 0 ∨ k = 1 ∨ k = 2 ∨ k = 3 := by omega
  cases d with
  | none =>
    have h1 := wx.non
    subst h1
    cases hg
    rcases h4 with e | e | e | e <;> subst e <;> exact go "NoneType" _ (.base .non) (by decide +kernel) rfl
  | bool b =>
    have h1 := wx.bl
    subst h1
    rcases h4 with e | e | e | e <;> subst e <;> cases hg <;> exact go "bool" _ (.base (.bl _)) (by decide +kernel) rfl
  | int b =>
    have h1 := wx.int
    subst h1
    rcases h4 with e | e | e | e <;> subst e <;> cases hg <;> exact go "int" _ (.base (.int _)) (by decide +kernel) rfl
  | str b =>
    have h1 := wx.str
    subst h1
    rcases h4 with e | e | e | e <;> subst e <;> cases hg <;> exact go "str" _ (.base (.str _)) (by decide +kernel) rfl
  | list b =>
    obtain ⟨a, vs, rfl, h1, h2⟩ := wx.list hs
    rcases h4 with e | e | e | e <;> subst e <;> cases hg <;> exact go "list" _ (sql_ty h1) (by decide +kernel) rfl
  | tuple b =>
    obtain ⟨a, vs, rfl, h1, h2⟩ := wx.tuple
    rcases h4 with e | e | e | e <;> subst e <;> cases hg <;> exact go "tuple" _ (sqt_ty (sqt_mono hs h1)) (by decide +kernel) rfl
  | dict b => cases hg
theorem isiD_bool {k : Nat} {d z : PyData} (h : Dn.isiD k d = some z) : ∃ b, z = .bool b := by
  cases d <;> first | (cases h; exact ⟨_, rfl⟩) | cases h
end
theorem rd_isi {K : PySem.W.Frag} {cl : Str → Value} {E : XK} {ta : TE} {fa : Dn.EF} (k : Nat) (ha : RdW K cl E ta fa) : Rd K cl E (tCB (rIsiD K k) (tCons ta (tCons (tC (.ty (isiTy k))) tNil))) (Dn.e1 (Dn.isiD k) fa) := fun B F0 F H σ ρ R r e Q ok ex => by
  rcases bnd_cases e with ⟨a, e1, e2⟩ | ⟨c, e1, rfl⟩
  · refine ha B F0 F H σ ρ R _ e1 _ (fun d ed v F1 H1 x1 w1 => ?_) (fun c ec => by cases ec)
    cases ed
    obtain ⟨z, ez, rfl⟩ := lft_cases e2
    obtain ⟨b, rfl⟩ := isiD_bool ez
    exact ⟨v, F1, a, b, rfl, x1.s, w1, ez, ok _ rfl _ F1 H1 x1 (.bl _)⟩
  · exact ha B F0 F H σ ρ R _ e1 _ (fun d ed => by cases ed) (fun c' ec F' H' x => by cases ec; exact ex c rfl F' H' x)
section
variable {X : Cx}
/-! ### subscripts -/
theorem atI_eq {α : Type} (xs : List α) (i : Int) : L2.atI xs i = (Dn.ixNat xs.length i).bind fun j => xs[j]? := rfl
theorem ix_X : IxR X (rD2 X.K Dn.ixD) := by
  intro ev es pins s σ H x y v u Q I rx ry h ho
  obtain ⟨F, d, e, r, hs, wx, wy, hg, q⟩ := h
  unfold Dn.ixD at hg
  split at hg
  · rename_i xs i
    obtain ⟨p, vs, rfl, h1, h2⟩ := wx.list hs
    have h3 := wy.int
    subst h3
    obtain ⟨j, hj, hd⟩ := Option.bind_eq_some_iff.mp hg
    obtain ⟨w, hw, hq⟩ := DpAll_get h2 hd
    refine ix_list ev es pins s σ H _ _ v u Q I rx ry ⟨p, vs, i, w, rfl, rfl, h1, ?_, q _ F H (Ext.refl hs) hq⟩ ho
    rw [atI_eq, DpAll_len h2, hj]
    exact hw
  · rename_i xs i
    obtain ⟨p, vs, rfl, h1, h2⟩ := wx.tuple
    have h3 := wy.int
    subst h3
    obtain ⟨j, hj, hd⟩ := Option.bind_eq_some_iff.mp hg
    obtain ⟨w, hw, hq⟩ := DpAll_get h2 hd
    refine ix_tup ev es pins s σ H _ _ v u Q I rx ry ⟨p, vs, i, w, rfl, rfl, sqt_mono hs h1, ?_, q _ F H (Ext.refl hs) hq⟩ ho
    rw [atI_eq, DpAll_len h2, hj]
    exact hw
  · rename_i z i
    split at hg
    · rename_i hl
      have h2 := wx.str
      have h3 := wy.int
      subst h2 h3
      obtain ⟨j, hj, hd⟩ := Option.bind_eq_some_iff.mp hg
      obtain ⟨c, hc, e⟩ := Option.map_eq_some_iff.mp hd
      cases e
      refine ix_str ev es pins s σ H _ _ v u Q I rx ry ⟨z, i, c, rfl, rfl, hl, ?_, q _ F H (Ext.refl hs) (.str _)⟩ ho
      rw [atI_eq, hj]
      exact hc
    · cases hg
  · cases hg
/-- a slice -/
def rSlD (K : PySem.W.Frag) : V → Option Int → Option Int → Hp → VK → Prop := fun x lo hi H Q => ∃ F d r, Same F H ∧ W K F H x d ∧ Dn.cutD lo hi d = some r ∧ ∀ v F' H', Ext F H F' H' → Dp K F' v r → Q v H'
theorem cut_eq (n d : Nat) (o : Option Int) : HT.sIx n d o = Dn.sIx n d o := rfl
theorem cutV_dp {K : PySem.W.Frag} {F : Hp} {vs : List V} {ds : List PyData} (h : DpAll K F vs ds) (lo hi : Option Int) : DpAll K F (cutV vs lo hi) (Dn.cutL ds lo hi) := by
  unfold cutV Dn.cutL
  rw [DpAll_len h]
  show DpAll K F _ ((ds.drop (HT.sIx ds.length 0 lo)).take (HT.sIx ds.length ds.length hi - HT.sIx ds.length 0 lo))
  exact DpAll_take _ (DpAll_drop _ h)
theorem sl_X : SlR X (rSlD X.K) := by
  intro pins s σ H x v vl vu lo hi sl Q I rx hsl pl pu h
  obtain ⟨F, d, r, hs, wx, hg, q⟩ := h
  unfold Dn.cutD at hg
  split at hg
  · cases hg
    obtain ⟨p, vs, rfl, h1, h2⟩ := wx.list hs
    exact sl_list pins s σ H _ v vl vu lo hi sl Q I rx hsl pl pu ⟨p, vs, rfl, h1, fun t ht => q _ _ _ (Ext.fresh hs _ ht) (.lst (SqL.of upd_same) (DpAll_mono (same_upd (hs.free ht)) (cutV_dp h2 lo hi)))⟩
  · cases hg
    obtain ⟨p, vs, rfl, h1, h2⟩ := wx.tuple
    refine sl_tupA pins s σ H _ v vl vu lo hi sl Q I rx hsl pl pu ⟨p, vs, rfl, sqt_mono hs h1, fun hw => q _ F H (Ext.refl hs) ?_, fun hw t ht => q _ _ _ (Ext.fresh hs _ ht) (.tup (SqT.of upd_same) (DpAll_mono (same_upd (hs.free ht)) (cutV_dp h2 lo hi)))⟩
    have e : cutV vs lo hi = vs := by
      unfold cutV
      rw [hw.1, hw.2, List.drop_zero, Nat.sub_zero, List.take_length]
    have hh := cutV_dp h2 lo hi
    rw [e] at hh
    exact .tup h1 hh
  · split at hg
    · rename_i hl
      cases hg
      have h1 := wx.str
      subst h1
      exact sl_str pins s σ H _ v vl vu lo hi sl Q I rx hsl pl pu ⟨_, rfl, hl, q _ F H (Ext.refl hs) (.str _)⟩
    · cases hg
  · cases hg
end
section
variable {K : PySem.W.Frag} {cl : Str → Value} {E : XK}
theorem rdo_no : RdO K cl E tNoPart Dn.oNo := fun B F0 F H σ ρ R r e Q ok ex => by
  cases e
  exact ok _ rfl F H (Ext.refl R.fh)
theorem rdo_int {ta : TE} {fa : Dn.EF} (ha : RdW K cl E ta fa) : RdO K cl E (tPart ta) (Dn.oInt fa) := fun B F0 F H σ ρ R r e Q ok ex => by
  rcases bnd_cases e with ⟨a, e1, e2⟩ | ⟨c, e1, rfl⟩
  · refine ha B F0 F H σ ρ R _ e1 _ (fun d ed v F1 H1 x1 w1 => ?_) (fun c ec => by cases ec)
    cases ed
    rcases bnd_cases e2 with ⟨i, e3, e4⟩ | ⟨c, e3, rfl⟩
    · obtain ⟨z, ez, e5⟩ := lft_cases e3
      cases e5
      cases e4
      cases a <;> first
        | (cases ez; exact ⟨_, w1.int, ok _ rfl F1 H1 x1⟩)
        | cases ez
    · obtain ⟨_, _, e5⟩ := lft_cases e3
      cases e5
  · exact ha B F0 F H σ ρ R _ e1 _ (fun d ed => by cases ed) (fun c' ec F' H' x => by cases ec; exact ex c rfl F' H' x)
theorem rd_cut {ta : TE} {fa : Dn.EF} {tl th : TO} {fl fh : Dn.Env → Dn.M (Option Int)} (ha : RdW K cl E ta fa) (hl : RdO K cl E tl fl) (hh : RdO K cl E th fh) : Rd K cl E (tSl (rSlD K) ta tl th) (Dn.eCut fa fl fh) := fun B F0 F H σ ρ R r e Q ok ex => by
  rcases bnd_cases e with ⟨a, e1, e2⟩ | ⟨c, e1, rfl⟩
  · refine ha B F0 F H σ ρ R _ e1 _ (fun d ed v F1 H1 x1 w1 => ?_) (fun c ec => by cases ec)
    cases ed
    rcases bnd_cases e2 with ⟨l, e3, e4⟩ | ⟨c, e3, rfl⟩
    · refine hl B F0 F1 H1 σ ρ (R.ext x1) _ e3 _ (fun d2 ed2 F2 H2 x2 => ?_) (fun c ec => by cases ec)
      cases ed2
      rcases bnd_cases e4 with ⟨u, e5, e6⟩ | ⟨c, e5, rfl⟩
      · refine hh B F0 F2 H2 σ ρ ((R.ext x1).ext x2) _ e5 _ (fun d3 ed3 F3 H3 x3 => ?_) (fun c ec => by cases ec)
        cases ed3
        obtain ⟨z, ez, rfl⟩ := lft_cases e6
        exact ⟨F3, a, z, x3.s, (w1.mono x2).mono x3, ez, fun v F' H' x q => ok _ rfl v F' H' (((x1.trans x2).trans x3).trans x) q⟩
      · exact hh B F0 F2 H2 σ ρ ((R.ext x1).ext x2) _ e5 _ (fun d2 ed2 => by cases ed2) (fun c' ec F' H' x => by cases ec; exact ex c rfl F' H' ((x1.trans x2).trans x))
    · exact hl B F0 F1 H1 σ ρ (R.ext x1) _ e3 _ (fun d2 ed2 => by cases ed2) (fun c' ec F' H' x => by cases ec; exact ex c rfl F' H' (x1.trans x))
  · exact ha B F0 F H σ ρ R _ e1 _ (fun d ed => by cases ed) (fun c' ec F' H' x => by cases ec; exact ex c rfl F' H' x)
/-- [..] * n -/
theorem rdn_rep {ta tk : TE} {fa fk : Dn.EF} (ha : RdN K cl E ta fa) (hk : RdW K cl E tk fk) : RdN K cl E (tOp rRep ta tk) (Dn.eRep fa fk) := fun B F0 F H σ ρ R r e Q ok ex => by
  rcases bnd_cases e with ⟨a, e1, e2⟩ | ⟨c, e1, rfl⟩
  · refine ha B F0 F H σ ρ R _ e1 _ (fun d ed p vs ds F1 H1 x1 el na fa' ha' q => ?_) (fun c ec => by cases ec)
    cases ed
    subst el
    rcases bnd_cases e2 with ⟨b, e3, e4⟩ | ⟨c, e3, rfl⟩
    · refine hk B F0 F1 H1 σ ρ (R.ext x1) _ e3 _ (fun d2 ed2 v2 F2 H2 x2 w2 => ?_) (fun c ec => by cases ec)
      cases ed2
      obtain ⟨z, ez, rfl⟩ := lft_cases e4
      split at ez
      · rename_i xs k hx
        split at ez
        · rename_i hc
          cases hx
          cases ez
          have hl := DpAll_len q
          have hz : vs.length * k.toNat ≤ sizeLine := by
            have h1 : vs.length * k.toNat ≤ 1000 * 1000 := Nat.mul_le_mul (by omega) (by omega)
            rw [sizeLine_eq]; omega
          refine ⟨p, k, vs, rfl, w2.int, x2.h _ _ ha', by omega, by omega, hz, fun t ht => ?_⟩
          exact ok _ rfl t _ _ F2 _ ((x1.trans x2).trans (Ext.freshO x2.s _ ht)) rfl ((x1.trans x2).h.free ht) (x2.s.free ht) upd_same (DpAll_rep (DpAll_mono x2.f q) k.toNat)
        · cases ez
      · cases ez
    · exact hk B F0 F1 H1 σ ρ (R.ext x1) _ e3 _ (fun d2 ed2 => by cases ed2) (fun c' ec F' H' x => by cases ec; exact ex c rfl F' H' (x1.trans x))
  · exact ha B F0 F H σ ρ R _ e1 _ (fun d ed => by cases ed) (fun c' ec F' H' x => by cases ec; exact ex c rfl F' H' x)
theorem dp_rg {F : Hp} (a b : Int) : DpAll K F (rgV a b) (Dn.rgL a b) := by
  unfold rgV Dn.rgL
  induction List.range (b - a).toNat with
  | nil => exact .nil
  | cons i r ih => exact .cons (.int _) ih
theorem rgOk_of {i : Int} (h : Dn.rgOk i = true) : -1000000 ≤ i ∧ i ≤ 1000000 := by
  unfold Dn.rgOk at h
  simp only [Bool.and_eq_true, decide_eq_true_eq] at h
  exact h
theorem rangeD_of {a b : PyData} {ds : List PyData} (h : Dn.rangeD a b = some ds) : ∃ i j, a = .int i ∧ b = .int j ∧ ds = Dn.rgL i j ∧ (-1000000 ≤ i ∧ i ≤ 1000000) ∧ -1000000 ≤ j ∧ j ≤ 1000000 := by
  unfold Dn.rangeD at h
  split at h
  · rename_i i j
    split at h
    · rename_i hc
      cases h
      obtain ⟨c1, c2⟩ := Bool.and_eq_true_iff.mp hc
      exact ⟨i, j, rfl, rfl, rfl, rgOk_of c1, rgOk_of c2⟩
    · cases h
  · cases h
theorem rdn_lrange {ta tb : TE} {fa fb : Dn.EF} (ha : RdW K cl E ta fa) (hb : RdW K cl E tb fb) : RdN K cl E (tLstRg (tRg2 ta tb)) (Dn.e2 Dn.lrangeD fa fb) := fun B F0 F H σ ρ R r e Q ok ex => by
  rcases bnd_cases e with ⟨a, e1, e2⟩ | ⟨c, e1, rfl⟩
  · refine ha B F0 F H σ ρ R _ e1 _ (fun d ed v F1 H1 x1 w1 => ?_) (fun c ec => by cases ec)
    cases ed
    rcases bnd_cases e2 with ⟨b, e3, e4⟩ | ⟨c, e3, rfl⟩
    · refine hb B F0 F1 H1 σ ρ (R.ext x1) _ e3 _ (fun d2 ed2 v2 F2 H2 x2 w2 => ?_) (fun c ec => by cases ec)
      cases ed2
      obtain ⟨z, ez, rfl⟩ := lft_cases e4
      obtain ⟨ds, hd, e5⟩ := Option.map_eq_some_iff.mp ez
      subst e5
      obtain ⟨i, j, rfl, rfl, rfl, h1, h2⟩ := rangeD_of hd
      refine ⟨i, j, w1.int, w2.int, ⟨by omega, by omega, by omega, by omega, by omega⟩, fun t ht => ?_⟩
      exact ok _ rfl t _ _ F2 _ ((x1.trans x2).trans (Ext.freshO x2.s _ ht)) rfl ((x1.trans x2).h.free ht) (x2.s.free ht) upd_same (dp_rg i j)
    · exact hb B F0 F1 H1 σ ρ (R.ext x1) _ e3 _ (fun d2 ed2 => by cases ed2) (fun c' ec F' H' x => by cases ec; exact ex c rfl F' H' (x1.trans x))
  · exact ha B F0 F H σ ρ R _ e1 _ (fun d ed => by cases ed) (fun c' ec F' H' x => by cases ec; exact ex c rfl F' H' x)
end
end Dw

set_option maxHeartbeats 4400000
/-! Dw4: what is walked; dicts; sorted; defs. -/
namespace Dw
open PySem PySem.Spec PyProof.Rows L2
section
variable {K : PySem.W.Frag} {cl : Str → Value} {E : XK}
/-! ### walks -/
theorem walk_list {F : Hp} {a : Addr} {vs : List V} {ds : List PyData} (h : SqL K F a vs) (q : DpAll K F vs ds) : Walk K (Itl K a) F ds where
  go := fun i H s hi => ⟨vs, vs[i]'(by rw [DpAll_len q]; exact hi), s.seq h, List.getElem?_eq_getElem _⟩
  stop := fun i H s hi => ⟨vs, s.seq h, by rw [DpAll_len q]; exact hi⟩
  yld := fun i F' H x H' s1 s2 hy hi => by
    obtain ⟨rfl, hy⟩ := hy
    obtain ⟨d, h1, h2⟩ := DpAll_getV q (hy vs ((s1.trans s2).seq h))
    exact ⟨d, F', h1, Ext.refl s2, Dp_mono s1 h2⟩
theorem walk_tup {F : Hp} {a : Addr} {vs : List V} {ds : List PyData} (h : SqT K F a vs) (q : DpAll K F vs ds) : Walk K (Itt K a) F ds where
  go := fun i H s hi => ⟨vs, vs[i]'(by rw [DpAll_len q]; exact hi), sqt_mono s h, List.getElem?_eq_getElem _⟩
  stop := fun i H s hi => ⟨vs, sqt_mono s h, by rw [DpAll_len q]; exact hi⟩
  yld := fun i F' H x H' s1 s2 hy hi => by
    obtain ⟨rfl, hy⟩ := hy
    obtain ⟨d, h1, h2⟩ := DpAll_getV q (hy vs (sqt_mono (s1.trans s2) h))
    exact ⟨d, F', h1, Ext.refl s2, Dp_mono s1 h2⟩
theorem walk_rg {F : Hp} (lo : Int) (n : Nat) : Walk K (Itr lo n) F ((List.range n).map fun i => .int (lo + (i : Nat))) where
  go := fun i H s hi => by
    rw [List.length_map, List.length_range] at hi
    exact hi
  stop := fun i H s hi => by
    rw [List.length_map, List.length_range] at hi
    exact hi
  yld := fun i F' H x H' s1 s2 hy hi => by
    obtain ⟨rfl, rfl⟩ := hy
    rw [List.length_map, List.length_range] at hi
    exact ⟨.int (lo + i), F', by rw [List.getElem?_map, List.getElem?_range hi]; rfl, Ext.refl s2, .int _⟩
/-- a list or a tuple -/
def iSeqT (K : PySem.W.Frag) (tl : TE) : TI := fun σ H R => tl σ H fun x H1 => ∃ a, x = .ref a ∧ (((∃ xs, SqL K H1 a xs) ∧ R (Itl K a) H1) ∨ ((∃ xs, SqT K H1 a xs) ∧ R (Itt K a) H1))
theorem pi_seq {X : Cx} {tg l : Expr} {tl : TE} (hl : PE X l tl) : PI X tg l (iSeqT X.K tl) where
  run := fun pins s σ H R I h => thn (hl.run pins s σ H _ I h) fun v s1 got => by
    obtain ⟨_, H1, I1, rv, a, rfl, q⟩ := got
    obtain rfl : v = .ref a := rv
    rcases q with ⟨⟨xs, hq⟩, q⟩ | ⟨⟨xs, hq⟩, q⟩
    · obtain ⟨its, -, p, -⟩ := I1.list hq
      exact wpAny_pyIter_list p.isList (pie_new1 I1 (turn_list a _) ⟨_, Heap.get?_push_size _ rfl, rfl, rfl⟩ q)
    · obtain ⟨its, -, p, -⟩ := I1.tuple hq.l2
      exact wpAny_pyIter_tuple (items := its.toArray) p (pie_new1 I1 (turn_tuple a _) ⟨_, Heap.get?_push_size _ rfl, rfl, rfl⟩ q)
theorem rdi_seq {t : TE} {f : Dn.EF} (h : Rd K cl E t f) : RdI K cl E (iSeqT K t) (Dn.iSeq f) := fun B F0 F H σ ρ R r e Q ok ex => by
  rcases bnd_cases e with ⟨a, e1, e2⟩ | ⟨c, e1, rfl⟩
  · refine h B F0 F H σ ρ R _ e1 _ (fun d ed v F1 H1 x1 w => ?_) (fun c ec => by cases ec)
    cases ed
    obtain ⟨ds, ez, rfl⟩ := lft_cases e2
    cases w with
    | lst hs ha =>
      cases ez
      exact ⟨_, rfl, .inl ⟨⟨_, x1.s.seq hs⟩, ok _ rfl _ F1 H1 x1 (walk_list hs ha)⟩⟩
    | tup hs ha =>
      cases ez
      exact ⟨_, rfl, .inr ⟨⟨_, sqt_mono x1.s hs⟩, ok _ rfl _ F1 H1 x1 (walk_tup hs ha)⟩⟩
    | non => cases ez
    | bl b => cases ez
    | int i => cases ez
    | str i => cases ez
  · exact h B F0 F H σ ρ R _ e1 _ (fun d ed => by cases ed) (fun c' ec F' H' x => by cases ec; exact ex c rfl F' H' x)
theorem rdi_rng1 {t : TE} {f : Dn.EF} (h : RdW K cl E t f) : RdI K cl E (L2.iRng1 (tCons t tNil)) (Dn.iRng1 f) := fun B F0 F H σ ρ R r e Q ok ex => by
  rcases bnd_cases e with ⟨a, e1, e2⟩ | ⟨c, e1, rfl⟩
  · refine h B F0 F H σ ρ R _ e1 _ (fun d ed v F1 H1 x1 w => ?_) (fun c ec => by cases ec)
    cases ed
    obtain ⟨ds, ez, rfl⟩ := lft_cases e2
    obtain ⟨i, j, hi, rfl, rfl, h1, h2⟩ := rangeD_of ez
    cases hi
    refine ⟨j, by rw [w.int], by omega, by omega, ok _ rfl _ F1 H1 x1 ?_⟩
    have := walk_rg (K := K) (F := F1) 0 j.toNat
    unfold Dn.rgL
    rw [Int.sub_zero]
    exact this
  · exact h B F0 F H σ ρ R _ e1 _ (fun d ed => by cases ed) (fun c' ec F' H' x => by cases ec; exact ex c rfl F' H' x)
theorem rdi_rng2 {t u : TE} {f g : Dn.EF} (ha : RdW K cl E t f) (hb : RdW K cl E u g) : RdI K cl E (L2.iRng2 (tCons t (tCons u tNil))) (Dn.iRng2 f g) := fun B F0 F H σ ρ R r e Q ok ex => by
  rcases bnd_cases e with ⟨a, e1, e2⟩ | ⟨c, e1, rfl⟩
  · refine ha B F0 F H σ ρ R _ e1 _ (fun d ed v F1 H1 x1 w1 => ?_) (fun c ec => by cases ec)
    cases ed
    rcases bnd_cases e2 with ⟨b, e3, e4⟩ | ⟨c, e3, rfl⟩
    · refine hb B F0 F1 H1 σ ρ (R.ext x1) _ e3 _ (fun d2 ed2 v2 F2 H2 x2 w2 => ?_) (fun c ec => by cases ec)
      cases ed2
      obtain ⟨ds, ez, rfl⟩ := lft_cases e4
      obtain ⟨i, j, rfl, rfl, rfl, h1, h2⟩ := rangeD_of ez
      refine ⟨i, j, by rw [w1.int, w2.int], ⟨by omega, by omega, by omega, by omega⟩, ok _ rfl _ F2 H2 (x1.trans x2) ?_⟩
      exact walk_rg (K := K) (F := F2) i (j - i).toNat
    · exact hb B F0 F1 H1 σ ρ (R.ext x1) _ e3 _ (fun d2 ed2 => by cases ed2) (fun c' ec F' H' x => by cases ec; exact ex c rfl F' H' (x1.trans x))
  · exact ha B F0 F H σ ρ R _ e1 _ (fun d ed => by cases ed) (fun c' ec F' H' x => by cases ec; exact ex c rfl F' H' x)
theorem zipL_len : ∀ (xs ys : List PyData), (Dn.zipL xs ys).length = min xs.length ys.length
  | [], _ => by simp [Dn.zipL]
  | _ :: _, [] => by simp [Dn.zipL]
  | x :: xs, y :: ys => by
    show (Dn.zipL xs ys).length + 1 = min (xs.length + 1) (ys.length + 1)
    rw [zipL_len xs ys]
    omega
theorem zipL_get : ∀ {xs ys : List PyData} {i : Nat} {x y : PyData}, xs[i]? = some x → ys[i]? = some y → (Dn.zipL xs ys)[i]? = some (.tuple [x, y])
  | [], _, _, _, _, h, _ => by simp at h
  | _ :: _, [], _, _, _, _, h => by simp at h
  | x :: xs, y :: ys, 0, _, _, h, h2 => by
    cases h
    cases h2
    rfl
  | x :: xs, y :: ys, i + 1, _, _, h, h2 => zipL_get (xs := xs) (ys := ys) (i := i) h h2
theorem walk_zipL {F : Hp} {a b : Addr} {vs ws : List V} {ds es : List PyData} (h : SqL K F a vs) (q : DpAll K F vs ds) (h2 : SqL K F b ws) (q2 : DpAll K F ws es) : Walk K (Itz K a b) F (Dn.zipL ds es) where
  go := fun i H s hi => by
    rw [zipL_len] at hi
    exact ⟨vs, ws, vs[i]'(by rw [DpAll_len q]; omega), ws[i]'(by rw [DpAll_len q2]; omega), s.seq h, s.seq h2, List.getElem?_eq_getElem _, List.getElem?_eq_getElem _⟩
  stop := fun i H s hi => by
    rw [zipL_len] at hi
    refine ⟨vs, ws, s.seq h, s.seq h2, ?_⟩
    rw [DpAll_len q, DpAll_len q2]
    omega
  yld := fun i F' H x H' s1 s2 hy hi => by
    obtain ⟨T, x1, y1, rfl, hT, rfl, hx, hy⟩ := hy
    obtain ⟨d, k1, k2⟩ := DpAll_getV q (hx vs ((s1.trans s2).seq h))
    obtain ⟨e, k3, k4⟩ := DpAll_getV q2 (hy ws ((s1.trans s2).seq h2))
    have sm : Same F (upd F' T (.tup [x1, y1])) := s1.trans (same_upd (s2.free hT))
    exact ⟨_, upd F' T (.tup [x1, y1]), zipL_get k1 k3, Ext.fresh s2 _ hT, .tup (SqT.of upd_same) (.cons (Dp_mono sm k2) (.cons (Dp_mono sm k4) .nil))⟩
theorem walk_zipT {F : Hp} {a b : Addr} {vs ws : List V} {ds es : List PyData} (h : SqT K F a vs) (q : DpAll K F vs ds) (h2 : SqT K F b ws) (q2 : DpAll K F ws es) : Walk K (RZ.ItzT K a b) F (Dn.zipL ds es) where
  go := fun i H s hi => by
    rw [zipL_len] at hi
    exact ⟨vs, ws, vs[i]'(by rw [DpAll_len q]; omega), ws[i]'(by rw [DpAll_len q2]; omega), sqt_mono s h, sqt_mono s h2, List.getElem?_eq_getElem _, List.getElem?_eq_getElem _⟩
  stop := fun i H s hi => by
    rw [zipL_len] at hi
    refine ⟨vs, ws, sqt_mono s h, sqt_mono s h2, ?_⟩
    rw [DpAll_len q, DpAll_len q2]
    omega
  yld := fun i F' H x H' s1 s2 hy hi => by
    obtain ⟨T, x1, y1, rfl, hT, rfl, hx, hy⟩ := hy
    obtain ⟨d, k1, k2⟩ := DpAll_getV q (hx vs (sqt_mono (s1.trans s2) h))
    obtain ⟨e, k3, k4⟩ := DpAll_getV q2 (hy ws (sqt_mono (s1.trans s2) h2))
    have sm : Same F (upd F' T (.tup [x1, y1])) := s1.trans (same_upd (s2.free hT))
    exact ⟨_, upd F' T (.tup [x1, y1]), zipL_get k1 k3, Ext.fresh s2 _ hT, .tup (SqT.of upd_same) (.cons (Dp_mono sm k2) (.cons (Dp_mono sm k4) .nil))⟩
/-- two lists, or two tuples -/
def seq2 : PyData → PyData → Bool
  | .list _, .list _ => true
  | .tuple _, .tuple _ => true
  | _, _ => false
theorem rdi_zip {t u : TE} {f g : Dn.EF} (ha : Rd K cl E t f) (hb : Rd K cl E u g) : RdI K cl E (RZ.iZipA K (tCons t (tCons u tNil))) (Dn.iZip f g) := fun B F0 F H σ ρ R r e Q ok ex => by
  rcases bnd_cases e with ⟨a, e1, e2⟩ | ⟨c, e1, rfl⟩
  · refine ha B F0 F H σ ρ R _ e1 _ (fun d ed v F1 H1 x1 w1 => ?_) (fun c ec => by cases ec)
    cases ed
    rcases bnd_cases e2 with ⟨b, e3, e4⟩ | ⟨c, e3, rfl⟩
    · refine hb B F0 F1 H1 σ ρ (R.ext x1) _ e3 _ (fun d2 ed2 v2 F2 H2 x2 w2 => ?_) (fun c ec => by cases ec)
      cases ed2
      obtain ⟨z, ez, rfl⟩ := lft_cases e4
      unfold Dn.zipD at ez
      split at ez
      · cases ez
        cases w1 with
        | lst hs1 ha1 =>
          cases w2 with
          | lst hs2 ha2 => exact ⟨_, _, _, _, rfl, .inl ⟨(x2.f.trans x2.s).seq hs1, x2.s.seq hs2, ok _ rfl _ F2 H2 (x1.trans x2) (walk_zipL (x2.f.seq hs1) (DpAll_mono x2.f ha1) hs2 ha2)⟩⟩
      · cases ez
        cases w1 with
        | tup hs1 ha1 =>
          cases w2 with
          | tup hs2 ha2 => exact ⟨_, _, _, _, rfl, .inr ⟨(sqt_mono (x2.f.trans x2.s) hs1).l2, (sqt_mono x2.s hs2).l2, ok _ rfl _ F2 H2 (x1.trans x2) (walk_zipT (sqt_mono x2.f hs1) (DpAll_mono x2.f ha1) hs2 ha2)⟩⟩
      · cases ez
    · exact hb B F0 F1 H1 σ ρ (R.ext x1) _ e3 _ (fun d2 ed2 => by cases ed2) (fun c' ec F' H' x => by cases ec; exact ex c rfl F' H' (x1.trans x))
  · exact ha B F0 F H σ ρ R _ e1 _ (fun d ed => by cases ed) (fun c' ec F' H' x => by cases ec; exact ex c rfl F' H' x)
theorem enumL_len : ∀ (k : Nat) (xs : List PyData), (Dn.enumL k xs).length = xs.length
  | _, [] => rfl
  | k, x :: xs => by
    show (Dn.enumL (k + 1) xs).length + 1 = xs.length + 1
    rw [enumL_len]
theorem enumL_get : ∀ {k : Nat} {xs : List PyData} {i : Nat} {x : PyData}, xs[i]? = some x → (Dn.enumL k xs)[i]? = some (.tuple [.int ((k + i : Nat) : Int), x])
  | _, [], _, _, h => by simp at h
  | k, x :: xs, 0, _, h => by
    cases h
    rfl
  | k, x :: xs, i + 1, _, h => by
    have ih := enumL_get (k := k + 1) (xs := xs) (i := i) h
    show (Dn.enumL (k + 1) xs)[i]? = _
    rw [ih]
    have e : k + 1 + i = k + (i + 1) := by omega
    rw [e]
theorem walk_enum {F : Hp} {a : Addr} {vs : List V} {ds : List PyData} (h : SqL K F a vs) (q : DpAll K F vs ds) : Walk K (Ite K a) F (Dn.enumL 0 ds) where
  go := fun i H s hi => by
    rw [enumL_len] at hi
    exact ⟨vs, vs[i]'(by rw [DpAll_len q]; omega), s.seq h, List.getElem?_eq_getElem _⟩
  stop := fun i H s hi => by
    rw [enumL_len] at hi
    exact ⟨vs, s.seq h, by rw [DpAll_len q]; omega⟩
  yld := fun i F' H x H' s1 s2 hy hi => by
    obtain ⟨T, x1, rfl, hT, rfl, hx⟩ := hy
    obtain ⟨d, k1, k2⟩ := DpAll_getV q (hx vs ((s1.trans s2).seq h))
    have sm : Same F (upd F' T (.tup [.int (i : Nat), x1])) := s1.trans (same_upd (s2.free hT))
    have hg := enumL_get (k := 0) k1
    rw [Nat.zero_add] at hg
    exact ⟨_, upd F' T (.tup [.int (i : Nat), x1]), hg, Ext.fresh s2 _ hT, .tup (SqT.of upd_same) (.cons (.int _) (.cons (Dp_mono sm k2) .nil))⟩
theorem rdi_enum {t : TE} {f : Dn.EF} (h : Rd K cl E t f) : RdI K cl E (L2.iEnum K (tCons t tNil)) (Dn.iEnumL f) := fun B F0 F H σ ρ R r e Q ok ex => by
  rcases bnd_cases e with ⟨a, e1, e2⟩ | ⟨c, e1, rfl⟩
  · refine h B F0 F H σ ρ R _ e1 _ (fun d ed v F1 H1 x1 w => ?_) (fun c ec => by cases ec)
    cases ed
    obtain ⟨ds, ez, rfl⟩ := lft_cases e2
    cases w with
    | lst hs ha =>
      cases ez
      exact ⟨_, _, rfl, x1.s.seq hs, ok _ rfl _ F1 H1 x1 (walk_enum hs ha)⟩
    | tup hs ha => cases ez
    | non => cases ez
    | bl b => cases ez
    | int i => cases ez
    | str i => cases ez
  · exact h B F0 F H σ ρ R _ e1 _ (fun d ed => by cases ed) (fun c' ec F' H' x => by cases ec; exact ex c rfl F' H' x)
end

/-! ### defs -/
theorem startN {N : List Str} {vs : List V} {ds : List PyData} (h : vs.length = ds.length) : (L2.start N vs).length = (ds.map (fun d => some (Dn.Sl.dat d)) ++ List.replicate (N.length - ds.length) none).length := by
  unfold L2.start
  rw [List.length_append, List.length_append, List.length_map, List.length_map, List.length_replicate, List.length_replicate, h]
theorem rp_start {K : PySem.W.Frag} {F H : Hp} {N : List Str} {vs : List V} {ds : List PyData} (s : Same F H) (h : DpAll K F vs ds) :
    Rp K H F F H (L2.start N vs) (ds.map (fun d => some (Dn.Sl.dat d)) ++ List.replicate (N.length - ds.length) none) := by
  have hl := DpAll_len h
  have get : ∀ {i : Nat} {x : Dn.Sl}, (ds.map (fun d => some (Dn.Sl.dat d)) ++ List.replicate (N.length - ds.length) none)[i]? = some (some x) → ∃ d, ds[i]? = some d ∧ x = .dat d := fun {i x} e => by
    by_cases hi : i < ds.length
    · rw [List.getElem?_append_left (by rw [List.length_map]; exact hi), List.getElem?_map, List.getElem?_eq_getElem hi] at e
      have e' := Option.some.inj (Option.some.inj e)
      exact ⟨_, List.getElem?_eq_getElem hi, e'.symm⟩
    · rw [List.getElem?_append_right (by rw [List.length_map]; omega), List.getElem?_replicate] at e
      split at e
      · cases e
      · cases e
  refine ⟨Same.refl _, Same.refl _, s, fun b o e => .inl e, startN hl, fun i d e => ?_, fun i d e => ?_, fun i d e => ?_, fun i d e => ?_, fun i j a x y h1 h2 n1 n2 _ _ => ?_⟩
  · obtain ⟨d', h1, h2⟩ := get e
    cases h2
    obtain ⟨v, h3, h4⟩ := DpAll_get h h1
    refine ⟨v, ?_, h4⟩
    unfold L2.start
    have hi : i < vs.length := (List.getElem?_eq_some_iff.mp h3).1
    rw [List.getElem?_append_left (by rw [List.length_map]; exact hi), List.getElem?_map, h3]
    rfl
  · obtain ⟨d', h1, h2⟩ := get e
    cases h2
  · obtain ⟨d', h1, h2⟩ := get e
    cases h2
  · obtain ⟨d', h1, h2⟩ := get e
    cases h2
  · obtain ⟨d', h3, h4⟩ := get h1
    exact absurd h4 (n1 _)
section
variable {P : Program} {w : World} {K : PySem.W.Frag} {mg : Str → Option Value} {base : Heap} {cl : Str → Value}
/-- a body answers for its def -/
theorem run_body {E : XK} {N : List Str} {t : TS} {b : Dn.SF} {n : Nat} {vs : List V} {H : Hp} {Q : VK} (hb : RdS K cl E t b) (h : spF K cl n (Dn.runF n N.length b) vs H Q E) :
    t { nx := fun _ H' => Q .non H', rt := Q } (L2.start N vs) H := by
  obtain ⟨F, ds, r, hn, hs, hd, hg, ok, ex⟩ := h
  unfold Dn.runF at hg
  split at hg
  · rename_i hl
    split at hg
    · rename_i d hb1
      cases hg
      subst hl
      refine hb H F F H _ _ (rp_start hs hd) _ hb1 _ ?_
      exact fun v F' H' s1 s2 s3 nb q => ok d rfl v F' H' ⟨s2, s3, s1, nb⟩ q
    · rename_i ρ' hb1
      cases hg
      subst hl
      refine hb H F F H _ _ (rp_start hs hd) _ hb1 _ ?_
      exact fun F' H' σ' R' => ok _ rfl .non F' H' ⟨R'.ff, R'.fh, R'.bh, R'.nb⟩ .non
    · rename_i c hb1
      cases hg
      subst hl
      refine hb H F F H _ _ (rp_start hs hd) _ hb1 _ ?_
      exact fun H' s1 => ex c rfl H' s1
    · cases hg
  · cases hg
/-- a def that lets nothing out, by its body -/
theorem fn_ok {x qual : Str} {st : Stmt} {f : Addr} {fd : FuncData} {N ps : List Str} {k n : Nat} {b : Dn.SF} (F : Fun K x qual st f fd) (S : FnScope N ps (defScope st)) (hn : ps.length = n)
    (hbody : ∀ (cdv : Value) (A : Around) (outer : List Env) (s : Shared) (H : Hp) (E : XK), Room k (A.deeper (envOfC qual (defScope st) s.heap.objs.size f cdv)) →
      ∃ t, PSs (cxOf CX0 P w K mg base N qual (defScope st) f cdv A outer s H E).nox (defBody st) t ∧ RdS K cl E0 t b) : FnOk P w K mg base CX0 (k + 1) f fd ps (spF K cl n (noX (Dn.runF n N.length b))) := by
  refine F.ok S (fun vs H Q E h => ?_) (fun cdv A outer s H vs Q E hr h => ?_)
  · obtain ⟨_, _, _, h1, _⟩ := h
    rw [h1, hn]
  · obtain ⟨t, h1, h2⟩ := hbody cdv A outer s H E hr
    obtain ⟨F, ds, r, hn', hs, hd, hg, ok, ex⟩ := h
    obtain ⟨h3, d, hd0⟩ := noX_ok hg
    exact ⟨t, h1, run_body (n := n) h2 ⟨F, ds, r, hn', hs, hd, h3, ok, fun c ec => by rw [hd0] at ec; cases ec⟩⟩
/-- a def that may raise -/
theorem fn_okX {x qual : Str} {st : Stmt} {f : Addr} {fd : FuncData} {N ps : List Str} {k n : Nat} {b : Dn.SF} (F : Fun K x qual st f fd) (S : FnScope N ps (defScope st)) (hn : ps.length = n)
    (hbody : ∀ (cdv : Value) (A : Around) (outer : List Env) (s : Shared) (H : Hp) (E : XK), Room k (A.deeper (envOfC qual (defScope st) s.heap.objs.size f cdv)) →
      ∃ t, PSs (cxOf (L2.CX P w) P w K mg base N qual (defScope st) f cdv A outer s H E) (defBody st) t ∧ RdS K cl E t b) : FnOk P w K mg base (L2.CX P w) (k + 1) f fd ps (spF K cl n (Dn.runF n N.length b)) := by
  refine F.okX S (fun vs H Q E h => ?_) (fun cdv A outer s H vs Q E hr h => ?_)
  · obtain ⟨_, _, _, h1, _⟩ := h
    rw [h1, hn]
  · obtain ⟨t, h1, h2⟩ := hbody cdv A outer s H E hr
    exact ⟨t, h1, run_body h2 h⟩
end
end Dw

set_option maxHeartbeats 4400000
/-! Dw5: dicts, sorted. -/
namespace Dw
open PySem PySem.Spec PyProof.Rows L2
section
variable {K : PySem.W.Frag} {B F0 F H F' H' : Hp} {σ : L2.St} {ρ : Dn.Env}
abbrev PT (K : PySem.W.Frag) (F : Hp) (ws : List (List Key × V)) (kvs : List (List Int × PyData)) : Prop :=
  Paired (fun (p : List Key × V) (q : List Int × PyData) => p.1 = q.1.map Sum.inl ∧ Dp K F p.2 q.2) ws kvs
theorem inl_inj {a b : List Int} (h : a.map (Sum.inl : Int → Key) = b.map Sum.inl) : a = b := by
  induction a generalizing b with
  | nil =>
    cases b with
    | nil => rfl
    | cons _ _ => cases h
  | cons x a ih =>
    cases b with
    | nil => cases h
    | cons y b =>
      rw [List.map_cons, List.map_cons] at h
      injection h with h1 h2
      cases h1
      rw [ih h2]
theorem PT_len {ws : List (List Key × V)} {kvs : List (List Int × PyData)} : PT K F ws kvs → ws.length = kvs.length := fun h => by
  induction h with
  | nil => rfl
  | cons _ _ ih => rw [List.length_cons, List.length_cons, ih]
theorem PT_any {k : List Int} : ∀ {ws : List (List Key × V)} {kvs : List (List Int × PyData)}, PT K F ws kvs → (ws.any fun kv => decide (kv.1 = k.map Sum.inl)) = kvs.any fun kv => decide (kv.1 = k)
  | _, _, .nil => rfl
  | _, _, .cons (a := p) (b := q) h t => by
    rw [List.any_cons, List.any_cons, PT_any t]
    congr 1
    rw [h.1]
    by_cases e : q.1 = k
    · rw [e]; simp
    · rw [decide_eq_false e, decide_eq_false fun z => e (inl_inj z)]
theorem PT_map {k : List Int} {v : V} {d : PyData} (hv : Dp K F v d) : ∀ {ws : List (List Key × V)} {kvs : List (List Int × PyData)}, PT K F ws kvs →
    PT K F (ws.map fun kv => if kv.1 = k.map Sum.inl then (kv.1, v) else kv) (kvs.map fun kv => if kv.1 = k then (kv.1, d) else kv)
  | _, _, .nil => .nil
  | _, _, .cons (a := p) (b := q) h t => by
    rw [List.map_cons, List.map_cons]
    refine .cons ?_ (PT_map hv t)
    by_cases e : q.1 = k
    · have e2 : p.1 = k.map Sum.inl := by rw [h.1, e]
      rw [if_pos e, if_pos e2]
      exact ⟨h.1, hv⟩
    · have e2 : ¬ p.1 = k.map Sum.inl := fun z => e (inl_inj (by rw [← h.1]; exact z))
      rw [if_neg e, if_neg e2]
      exact h
theorem PT_app {v : V} {d : PyData} {k : List Int} (hv : Dp K F v d) : ∀ {ws : List (List Key × V)} {kvs : List (List Int × PyData)}, PT K F ws kvs → PT K F (ws ++ [(k.map Sum.inl, v)]) (kvs ++ [(k, d)])
  | _, _, .nil => .cons ⟨rfl, hv⟩ .nil
  | _, _, .cons h t => .cons h (PT_app hv t)
theorem PT_put {k : List Int} {v : V} {d : PyData} (hv : Dp K F v d) {ws : List (List Key × V)} {kvs : List (List Int × PyData)} (h : PT K F ws kvs) : PT K F (putK ws (k.map Sum.inl) v) (Dn.putT kvs k d) := by
  unfold putK Dn.putT
  rw [PT_any h]
  by_cases e : (kvs.any fun kv => decide (kv.1 = k)) = true
  · rw [if_pos e, if_pos e]
    exact PT_map hv h
  · rw [if_neg e, if_neg e]
    exact PT_app hv h
theorem PT_get {k : List Int} {d : PyData} : ∀ {ws : List (List Key × V)} {kvs : List (List Int × PyData)}, PT K F ws kvs → Dn.getT kvs k = some d → ∃ v, valV ws (k.map Sum.inl) = some v ∧ Dp K F v d
  | _, _, .nil, e => by cases e
  | _, _, .cons (a := p) (b := q) (l₁ := ws) (l₂ := kvs) h t, e => by
    by_cases e1 : q.1 = k
    · have e2 : p.1 = k.map Sum.inl := by rw [h.1, e1]
      have e3 : d = q.2 := by
        unfold Dn.getT at e
        rw [List.find?_cons_of_pos (by simpa using e1)] at e
        exact (Option.some.inj e).symm
      exact ⟨p.2, valV_pos e2, by rw [e3]; exact h.2⟩
    · have e2 : ¬ p.1 = k.map Sum.inl := fun z => e1 (inl_inj (by rw [← h.1]; exact z))
      have e3 : Dn.getT kvs k = some d := by
        unfold Dn.getT at e ⊢
        rw [List.find?_cons_of_neg (by simpa using e1)] at e
        exact e
      obtain ⟨v, h1, h2⟩ := PT_get t e3
      refine ⟨v, ?_, h2⟩
      unfold valV at h1 ⊢
      rw [List.find?_cons_of_neg (by simpa using e2)]
      exact h1
theorem PT_getV {k : List Key} {v : V} : ∀ {ws : List (List Key × V)} {kvs : List (List Int × PyData)} {i : Nat}, PT K F ws kvs → ws[i]? = some (k, v) → ∃ q, kvs[i]? = some q ∧ k = q.1.map Sum.inl
  | _, _, _, .nil, e => by simp at e
  | _, _, 0, .cons h t, e => by
    cases e
    exact ⟨_, rfl, h.1⟩
  | _, _, i + 1, .cons h t, e => PT_getV (i := i) t e
/-- a slot takes a new dict -/
theorem Rp.setOwnT (R : Rp K B F0 F H σ ρ) {ds : List (List Int × PyData)} {a : Addr} {vs : List (List Key × V)} (hH : H a = some (.dT vs)) (hB : B a = none) (hF : F a = none) (q : PT K F vs ds) (hn : ∀ (i : Nat) (s : Dn.Sl), ρ[i]? = some (some s) → (∀ d, s ≠ .dat d) → σ[i]? ≠ some (some (.ref a))) (i : Nat) :
    Rp K B F0 F H (σ.set i (some (.ref a))) (ρ.set i (some (.ownT ds))) := by
  have get : ∀ {j : Nat} {s : Dn.Sl}, (ρ.set i (some (.ownT ds)))[j]? = some (some s) → (i = j ∧ s = .ownT ds ∧ i < ρ.length) ∨ (i ≠ j ∧ ρ[j]? = some (some s)) := fun {j s} h => by
    by_cases hj : i = j
    · subst hj
      have hl : i < ρ.length := by
        obtain ⟨z, _⟩ := List.getElem?_eq_some_iff.mp h
        rw [List.length_set] at z; exact z
      rw [List.getElem?_set_self hl] at h
      cases h
      exact .inl ⟨rfl, rfl, hl⟩
    · rw [List.getElem?_set_ne hj] at h
      exact .inr ⟨hj, h⟩
  have self : i < ρ.length → (σ.set i (some (V.ref a)))[i]? = some (some (V.ref a)) := fun h => List.getElem?_set_self (by rw [R.len]; exact h)
  refine ⟨R.bh, R.ff, R.fh, R.nb, by rw [List.length_set, List.length_set]; exact R.len, fun j d h => ?_, fun j es h => ?_, fun j es h => ?_, fun j es h => ?_, fun j k b s s' h1 h2 n1 n2 g1 g2 => ?_⟩
  · rcases get h with ⟨rfl, z, _⟩ | ⟨hj, h⟩
    · cases z
    · rw [List.getElem?_set_ne hj]; exact R.dat j d h
  · rcases get h with ⟨rfl, z, _⟩ | ⟨hj, h⟩
    · cases z
    · rw [List.getElem?_set_ne hj]; exact R.own j es h
  · rcases get h with ⟨rfl, z, hl⟩ | ⟨hj, h⟩
    · cases z
      exact ⟨a, vs, self hl, hH, hB, hF, q⟩
    · rw [List.getElem?_set_ne hj]; exact R.ownT j es h
  · rcases get h with ⟨rfl, z, _⟩ | ⟨hj, h⟩
    · cases z
    · rw [List.getElem?_set_ne hj]; exact R.frzT j es h
  · rcases get h1 with ⟨rfl, _, hl⟩ | ⟨hj, h1⟩
    · rcases get h2 with ⟨rfl, _, _⟩ | ⟨hk, h2⟩
      · rfl
      · rw [self hl] at g1
        cases g1
        rw [List.getElem?_set_ne hk] at g2
        exact absurd g2 (hn k _ h2 n2)
    · rcases get h2 with ⟨rfl, _, hl⟩ | ⟨hk, h2⟩
      · rw [self hl] at g2
        cases g2
        rw [List.getElem?_set_ne hj] at g1
        exact absurd g1 (hn j _ h1 n1)
      · rw [List.getElem?_set_ne hj] at g1
        rw [List.getElem?_set_ne hk] at g2
        exact R.dist j k b s s' h1 h2 n1 n2 g1 g2
/-- a dict of one's own is changed -/
theorem Rp.updOwnT (R : Rp K B F0 F H σ ρ) {i : Nat} {ds ds' : List (List Int × PyData)} {a : Addr} {vs' : List (List Key × V)} (e : ρ[i]? = some (some (.ownT ds))) (e2 : σ[i]? = some (some (.ref a))) (hB : B a = none) (hF : F a = none) (q : PT K F vs' ds') :
    Rp K B F0 F (upd H a (.dT vs')) σ (ρ.set i (some (.ownT ds'))) := by
  have hl : i < ρ.length := (List.getElem?_eq_some_iff.mp e).1
  have sa : ∀ {G : Hp}, Same G H → G a = none → Same G (upd H a (.dT vs')) := fun {G} s n b o h => by
    rw [upd_ne (ne_of_none h n)]; exact s b o h
  have get : ∀ {j : Nat} {s : Dn.Sl}, (ρ.set i (some (.ownT ds')))[j]? = some (some s) → (i = j ∧ s = .ownT ds') ∨ (i ≠ j ∧ ρ[j]? = some (some s)) := fun {j s} h => by
    by_cases hj : i = j
    · subst hj
      rw [List.getElem?_set_self hl] at h
      cases h
      exact .inl ⟨rfl, rfl⟩
    · rw [List.getElem?_set_ne hj] at h
      exact .inr ⟨hj, h⟩
  have nd : ∀ d, Dn.Sl.ownT ds ≠ .dat d := fun d z => by cases z
  refine ⟨sa R.bh hB, R.ff, sa R.fh hF, R.nb, by rw [List.length_set]; exact R.len, fun j d h => ?_, fun j es h => ?_, fun j es h => ?_, fun j es h => ?_, fun j k b s s' h1 h2 n1 n2 g1 g2 => ?_⟩
  · rcases get h with ⟨_, z⟩ | ⟨_, h⟩
    · cases z
    · exact R.dat j d h
  · rcases get h with ⟨rfl, z⟩ | ⟨hj, h⟩
    · cases z
    · obtain ⟨b, ws, h1, h2, h3, h4, h5⟩ := R.own j es h
      have hne : b ≠ a := fun z => by
        subst z
        exact hj (R.dist i j b _ _ e h nd (fun d z => by cases z) e2 h1)
      exact ⟨b, ws, h1, by rw [upd_ne hne]; exact h2, h3, h4, h5⟩
  · rcases get h with ⟨rfl, z⟩ | ⟨hj, h⟩
    · cases z
      exact ⟨a, vs', e2, upd_same, hB, hF, q⟩
    · obtain ⟨b, ws, h1, h2, h3, h4, h5⟩ := R.ownT j es h
      have hne : b ≠ a := fun z => by
        subst z
        exact hj (R.dist i j b _ _ e h nd (fun d z => by cases z) e2 h1)
      exact ⟨b, ws, h1, by rw [upd_ne hne]; exact h2, h3, h4, h5⟩
  · rcases get h with ⟨rfl, z⟩ | ⟨hj, h⟩
    · cases z
    · exact R.frzT j es h
  · have conv : ∀ {j : Nat} {s : Dn.Sl}, (ρ.set i (some (.ownT ds')))[j]? = some (some s) → (∀ d, s ≠ .dat d) → ∃ s0 : Dn.Sl, ρ[j]? = some (some s0) ∧ ∀ d, s0 ≠ .dat d := fun {j s} h n => by
      rcases get h with ⟨rfl, z⟩ | ⟨hj, h⟩
      · exact ⟨_, e, nd⟩
      · exact ⟨s, h, n⟩
    obtain ⟨s0, k1, k2⟩ := conv h1 n1
    obtain ⟨s1, k3, k4⟩ := conv h2 n2
    exact R.dist j k b s0 s1 k1 k3 k2 k4 g1 g2
end
section
variable {K : PySem.W.Frag} {cl : Str → Value} {E : XK}
theorem rds_dictNew (i : Nat) : RdS K cl E (tAsg tDNewT (L2.gName i)) (Dn.sDictNew i) := fun B F0 F H σ ρ R r e D p => by
  cases e
  intro a ha
  have R1 := R.ext (Ext.freshO R.fh (.dT []) ha)
  exact p F _ _ (R1.setOwnT upd_same (R.bh.free ha) (R.fh.free ha) .nil (R.newOut ha) i)
theorem rds_dictSet {ta tb te : TE} {fa fb f : Dn.EF} (i : Nat) (ha : RdW K cl E ta fa) (hb : RdW K cl E tb fb) (h : Rd K cl E te f) :
    RdS K cl E (sDPut (tVar i) (tTup (tCons ta (tCons tb tNil))) te) (Dn.sDictSet i fa fb f) := fun B F0 F H σ ρ R r e D p => by
  rcases bS_cases e with ⟨d, e1, e2⟩ | ⟨c, e1, rfl⟩
  · refine h B F0 F H σ ρ R _ e1 _ (fun d' ed v F1 H1 x1 w => ?_) (fun c ec => by cases ec)
    cases ed
    have R1 := R.ext x1
    split at e2
    · rename_i kvs hd
      obtain ⟨a, vs, h1, h2, h3, h4, h5⟩ := R.ownT i kvs hd
      refine ⟨.ref a, h1, ?_⟩
      rcases bS_cases e2 with ⟨z, e3, e4⟩ | ⟨c, e3, rfl⟩
      · refine ha B F0 F1 H1 σ ρ R1 _ e3 _ (fun d2 ed2 v2 F2 H2 x2 w2 => ?_) (fun c ec => by cases ec)
        cases ed2
        rcases bS_cases e4 with ⟨z2, e5, e6⟩ | ⟨c, e5, rfl⟩
        · refine hb B F0 F2 H2 σ ρ (R1.ext x2) _ e5 _ (fun d3 ed3 v3 F3 H3 x3 w3 => ?_) (fun c ec => by cases ec)
          cases ed3
          split at e6
          · rename_i x y
            split at e6
            · rename_i hlen
              cases e6
              have k1 := w2.int
              have k2 := w3.int
              subst k1 k2
              refine ⟨by show 2 ≤ sizeLine; decide, fun t ht => ?_⟩
              have xx := (x1.trans x2).trans x3
              have R3 : Rp K B F0 (upd F3 t (.tup [.int x, .int y])) (upd H3 t (.tup [.int x, .int y])) σ ρ := (R.ext xx).ext (Ext.fresh xx.s _ ht)
              obtain ⟨a', vs', g1, g2, g3, g4, g5⟩ := R3.ownT i kvs hd
              have ea : a' = a := by
                rw [h1] at g1
                cases g1
                rfl
              subst ea
              have hl2 : vs'.length < sizeLine := by rw [PT_len g5]; exact lineM (by omega)
              refine ⟨a', _, rfl, DPut.t (k := [Sum.inl x, Sum.inl y]) g2 upd_same hl2, p _ _ σ (R3.updOwnT hd g1 g3 g4 (PT_put (k := [x, y]) (Dp_mono (((x2.f).trans x3.f).trans (same_upd (xx.s.free ht))) w) g5))⟩
            · cases e6
          · cases e6
        · exact hb B F0 F2 H2 σ ρ (R1.ext x2) _ e5 _ (fun d ed => by cases ed) (fun c' ec F' H' x => by cases ec; exact p H' ((R1.ext x2).bh.trans x.h))
      · exact ha B F0 F1 H1 σ ρ R1 _ e3 _ (fun d ed => by cases ed) (fun c' ec F' H' x => by cases ec; exact p H' (R1.bh.trans x.h))
    · cases e2
  · exact h B F0 F H σ ρ R _ e1 _ (fun d ed => by cases ed) (fun c' ec F' H' x => by cases ec; exact p H' (R.bh.trans x.h))
theorem rd_dictGet {ta tb : TE} {fa fb : Dn.EF} (i : Nat) (ha : RdW K cl E ta fa) (hb : RdW K cl E tb fb) :
    Rd K cl E (tDGet (tVar i) (tTup (tCons ta (tCons tb tNil)))) (Dn.eDictGet i fa fb) := fun B F0 F H σ ρ R r e Q ok ex => by
  unfold Dn.eDictGet at e
  split at e
  · rename_i kvs hd
    obtain ⟨a, ws, o, h1, h2, h5⟩ := R.frzT i kvs hd
    refine ⟨.ref a, h1, ?_⟩
    rcases bnd_cases e with ⟨z, e3, e4⟩ | ⟨c, e3, rfl⟩
    · refine ha B F0 F H σ ρ R _ e3 _ (fun d2 ed2 v2 F2 H2 x2 w2 => ?_) (fun c ec => by cases ec)
      cases ed2
      rcases bnd_cases e4 with ⟨z2, e5, e6⟩ | ⟨c, e5, rfl⟩
      · refine hb B F0 F2 H2 σ ρ (R.ext x2) _ e5 _ (fun d3 ed3 v3 F3 H3 x3 w3 => ?_) (fun c ec => by cases ec)
        cases ed3
        obtain ⟨y0, ey, rfl⟩ := lft_cases e6
        split at ey
        · rename_i x y
          have k1 := w2.int
          have k2 := w3.int
          subst k1 k2
          obtain ⟨u, hu, hq⟩ := PT_get h5 ey
          refine ⟨by show 2 ≤ sizeLine; decide, fun t ht => ?_⟩
          have xx := x2.trans x3
          have hne : a ≠ t := fun z => by
            subst z
            rw [xx.h _ _ (R.bh _ _ h2)] at ht; cases ht
          refine ⟨a, u, rfl, .inr ⟨ws, [Sum.inl x, Sum.inl y], t, .inr ⟨o, by rw [upd_ne hne]; exact xx.h _ _ (R.bh _ _ h2)⟩, rfl, upd_same, hu.symm⟩, ?_⟩
          exact ok _ rfl u _ _ (xx.trans (Ext.fresh xx.s _ ht)) (Dp_mono (xx.f.trans (same_upd (xx.s.free ht))) hq)
        · cases ey
      · exact hb B F0 F2 H2 σ ρ (R.ext x2) _ e5 _ (fun d ed => by cases ed) (fun c' ec F' H' x => by cases ec; exact ex c rfl F' H' (x2.trans x))
    · exact ha B F0 F H σ ρ R _ e3 _ (fun d ed => by cases ed) (fun c' ec F' H' x => by cases ec; exact ex c rfl F' H' x)
  · cases e
theorem dp_ints {F : Hp} : ∀ ns : List Int, DpAll K F ((ns.map Sum.inl : List Key).map kV) (ns.map .int)
  | [] => .nil
  | n :: ns => .cons (.int n) (dp_ints ns)
theorem walk_keys {F : Hp} {a : Addr} {o : Obj} {ws : List (List Key × V)} {kvs : List (List Int × PyData)} (hB : F a = some (.frz o (.dT ws))) (q : PT K F ws kvs) : Walk K (Itkt a o ws) F (Dn.keysT kvs) where
  go := fun i H s hi => ⟨s _ _ hB, by
    unfold Dn.keysT at hi
    rw [List.length_map] at hi
    rw [PT_len q]; exact hi⟩
  stop := fun i H s hi => ⟨s _ _ hB, by
    unfold Dn.keysT at hi
    rw [List.length_map] at hi
    rw [PT_len q]; exact hi⟩
  yld := fun i F' H x H' s1 s2 hy hi => by
    obtain ⟨rfl, k, v, b, hk, rfl, hb⟩ := hy
    obtain ⟨kv, h1, h2⟩ := PT_getV (i := i) q hk
    subst h2
    refine ⟨.tuple (kv.1.map .int), fun c => if c = b then some (.tup ((kv.1.map Sum.inl : List Key).map kV)) else F' c, ?_, ⟨fun c o' h => ?_, fun c o' h => ?_, Same.refl _, fun c o' h => ?_⟩, ?_⟩
    · unfold Dn.keysT
      rw [List.getElem?_map, h1]
      rfl
    · by_cases hc : c = b
      · subst hc
        have := s2 c o' h
        rw [hb] at this
        show (if c = c then _ else F' c) = _
        rw [if_pos rfl]; exact this
      · show (if c = b then _ else F' c) = _
        rw [if_neg hc]; exact h
    · by_cases hc : c = b
      · subst hc
        have h' := (if_pos rfl).symm.trans h
        rw [← h']; exact hb
      · exact s2 c o' ((if_neg hc).symm.trans h)
    · by_cases hc : c = b
      · subst hc
        have h' := (if_pos rfl).symm.trans h
        cases h'
        exact .inr (.inr ⟨_, rfl⟩)
      · exact .inl ((if_neg hc).symm.trans h)
    · exact .tup (SqT.of (if_pos rfl)) (dp_ints _)
/-- F without what stands at a -/
def but (F : Hp) (a : Addr) : Hp := fun b => if b = a then none else F b
theorem but_ne {F : Hp} {a b : Addr} (h : b ≠ a) : but F a b = F b := if_neg h
theorem but_eq {F : Hp} {a : Addr} : but F a a = none := if_pos rfl
theorem but_some {F : Hp} {a b : Addr} {o : HO} (h : but F a b = some o) : b ≠ a ∧ F b = some o := by
  by_cases e : b = a
  · subst e
    rw [but_eq] at h; cases h
  · rw [but_ne e] at h
    exact ⟨e, h⟩
mutual
theorem Dp_but {K : PySem.W.Frag} {F : Hp} {a : Addr} {o : Obj} {ws : List (List Key × V)} (h : F a = some (.frz o (.dT ws))) : ∀ {v : V} {d : PyData}, Dp K F v d → Dp K (but F a) v d
  | _, _, .non => .non
  | _, _, .bl b => .bl b
  | _, _, .int i => .int i
  | _, _, .str x => .str x
  | _, _, .lst hs q => .lst (by
      rcases hs with (hs | ⟨o', hs⟩) | hs
      · exact .inl (.inl (by rw [but_ne (fun z => by subst z; rw [h] at hs; cases hs)]; exact hs))
      · exact .inl (.inr ⟨o', by rw [but_ne (fun z => by subst z; rw [h] at hs; cases hs)]; exact hs⟩)
      · exact .inr hs) (DpAll_but h q)
  | _, _, .tup hs q => .tup (by
      show but F a _ = _
      rw [but_ne (fun z => by subst z; have hs' := hs; unfold SqT at hs'; rw [h] at hs'; cases hs')]
      exact hs) (DpAll_but h q)
theorem DpAll_but {K : PySem.W.Frag} {F : Hp} {a : Addr} {o : Obj} {ws : List (List Key × V)} (h : F a = some (.frz o (.dT ws))) : ∀ {vs : List V} {ds : List PyData}, DpAll K F vs ds → DpAll K (but F a) vs ds
  | _, _, .nil => .nil
  | _, _, .cons q r => .cons (Dp_but h q) (DpAll_but h r)
end
theorem noFrz_of {ρ : Dn.Env} (h : Dn.noFrz ρ = true) {i : Nat} {kvs : List (List Int × PyData)} : ρ[i]? ≠ some (some (.frzT kvs)) := fun e => by
  have hm := List.mem_of_getElem? e
  have := List.all_eq_true.mp h _ hm
  cases this
theorem rds_forKeys {g : TG} {tb : TS} {fg : Dn.GF} {sb : Dn.SF} {gs : List Nat} (i : Nat) (hg : RdG K g fg gs) (hb : RdS K cl E tb sb) : RdS K cl E (tLock (tFor (iKeys (tVar i)) g tb)) (Dn.sForKeys i fg sb) := fun B F0 F H σ ρ R r e D p => by
  unfold Dn.sForKeys at e
  split at e
  · rename_i kvs hd
    obtain ⟨a, ws, h1, h2, h3, h4, h5⟩ := R.ownT i kvs hd
    refine ⟨a, .dT ws, h2, trivial, fun od => ?_⟩
    have hl : i < ρ.length := (List.getElem?_eq_some_iff.mp hd).1
    split at e
    · rename_i ρ' hfor
      split at e
      · rename_i hno
        cases e
        have sF : Same F (upd F a (.frz od (.dT ws))) := same_upd h4
        have ne_own : ∀ {j : Nat} {s : Dn.Sl} {b : Addr}, i ≠ j → ρ[j]? = some (some s) → (∀ d, s ≠ .dat d) → σ[j]? = some (some (.ref b)) → b ≠ a := fun {j s b} hj hs n he z => by
          subst z
          exact hj (R.dist i j b _ _ hd hs (fun d z => by cases z) n h1 he)
        have get : ∀ {j : Nat} {s : Dn.Sl}, (ρ.set i (some (.frzT kvs)))[j]? = some (some s) → (i = j ∧ s = .frzT kvs) ∨ (i ≠ j ∧ ρ[j]? = some (some s)) := fun {j s} h => by
          by_cases hj : i = j
          · subst hj
            rw [List.getElem?_set_self hl] at h
            cases h
            exact .inl ⟨rfl, rfl⟩
          · rw [List.getElem?_set_ne hj] at h
            exact .inr ⟨hj, h⟩
        have sU : ∀ {G : Hp}, Same G H → Same (upd G a (.frz od (.dT ws))) (upd H a (.frz od (.dT ws))) := fun {G} s b o h => by
          by_cases hb : b = a
          · subst hb; rw [upd_same] at h ⊢; exact h
          · rw [upd_ne hb] at h ⊢; exact s b o h
        have R1 : Rp K (upd B a (.frz od (.dT ws))) (upd F a (.frz od (.dT ws))) (upd F a (.frz od (.dT ws))) (upd H a (.frz od (.dT ws))) σ (ρ.set i (some (.frzT kvs))) := by
          refine ⟨sU R.bh, Same.refl _, sU R.fh, fun b o h => .inl h, by rw [List.length_set]; exact R.len, fun j d h => ?_, fun j es h => ?_, fun j es h => ?_, fun j es h => ?_, fun j k b s s' k1 k2 n1 n2 g1 g2 => ?_⟩
          · rcases get h with ⟨_, z⟩ | ⟨_, h⟩
            · cases z
            · obtain ⟨v, q1, q2⟩ := R.dat j d h
              exact ⟨v, q1, Dp_mono sF q2⟩
          · rcases get h with ⟨_, z⟩ | ⟨hj, h⟩
            · cases z
            · obtain ⟨b, vs, q1, q2, q3, q4, q5⟩ := R.own j es h
              have hne := ne_own hj h (fun d z => by cases z) q1
              exact ⟨b, vs, q1, by rw [upd_ne hne]; exact q2, by rw [upd_ne hne]; exact q3, by rw [upd_ne hne]; exact q4, DpAll_mono sF q5⟩
          · rcases get h with ⟨_, z⟩ | ⟨hj, h⟩
            · cases z
            · obtain ⟨b, vs, q1, q2, q3, q4, q5⟩ := R.ownT j es h
              have hne := ne_own hj h (fun d z => by cases z) q1
              exact ⟨b, vs, q1, by rw [upd_ne hne]; exact q2, by rw [upd_ne hne]; exact q3, by rw [upd_ne hne]; exact q4, paired_mono q5 fun _ _ q => ⟨q.1, Dp_mono sF q.2⟩⟩
          · rcases get h with ⟨rfl, z⟩ | ⟨hj, h⟩
            · cases z
              exact ⟨a, ws, od, h1, upd_same, paired_mono h5 fun _ _ q => ⟨q.1, Dp_mono sF q.2⟩⟩
            · obtain ⟨b, vs, o, q1, q2, q5⟩ := R.frzT j es h
              have hne := ne_own hj h (fun d z => by cases z) q1
              exact ⟨b, vs, o, q1, by rw [upd_ne hne]; exact q2, paired_mono q5 fun _ _ q => ⟨q.1, Dp_mono sF q.2⟩⟩
          · have conv : ∀ {j : Nat} {s : Dn.Sl}, (ρ.set i (some (.frzT kvs)))[j]? = some (some s) → (∀ d, s ≠ .dat d) → ∃ s0 : Dn.Sl, ρ[j]? = some (some s0) ∧ ∀ d, s0 ≠ .dat d := fun {j s} h n => by
              rcases get h with ⟨rfl, z⟩ | ⟨hj, h⟩
              · exact ⟨_, hd, fun d z => by cases z⟩
              · exact ⟨s, h, n⟩
            obtain ⟨s0, m1, m2⟩ := conv k1 n1
            obtain ⟨s1, m3, m4⟩ := conv k2 n2
            exact R.dist j k b s0 s1 m1 m3 m2 m4 g1 g2
        have hiter : RdI K cl E (iKeys (tVar i)) (fun ρ0 => match ρ0[i]? with | some (some (.frzT _)) => some (.ok (Dn.keysT kvs)) | _ => none) → True := fun _ => trivial
        -- the loop itself
        refine ⟨.ref a, h1, a, od, rfl, .inr ⟨ws, upd_same, ?_⟩⟩
        have wk : Walk K (Itkt a od ws) (upd F a (.frz od (.dT ws))) (Dn.keysT kvs) := walk_keys upd_same (paired_mono h5 fun _ _ q => ⟨q.1, Dp_mono sF q.2⟩)
        let wi : TI := fun _ H1 Q => Q (Itkt a od ws) H1
        have lp : RdS K cl E (tFor wi g tb) (Dn.sFor (fun _ => some (.ok (Dn.keysT kvs))) fg sb) → True := fun _ => trivial
        have body : ∀ (D' : Ends), Post K cl E (upd B a (.frz od (.dT ws))) (upd F a (.frz od (.dT ws))) D' (.nx ρ') → tFor wi g tb D' σ (upd H a (.frz od (.dT ws))) := fun D' pp => by
          refine ⟨fun m n σ' H' => m + n = (Dn.keysT kvs).length ∧ ∃ F' ρ0, Rp K (upd B a (.frz od (.dT ws))) (upd F a (.frz od (.dT ws))) F' H' σ' ρ0 ∧ Dn.forL fg sb ((Dn.keysT kvs).drop m) ρ0 = some (.nx ρ'), ⟨(Dn.keysT kvs).length, by omega, _, _, R1, hfor⟩, ?_⟩
          rintro m n σ' H' ⟨him, F', ρ0, R', hf⟩
          by_cases hlt : m < (Dn.keysT kvs).length
          · rw [List.drop_eq_getElem_cons hlt] at hf
            unfold Dn.forL at hf
            cases hg1 : fg (Dn.keysT kvs)[m] ρ0 with
            | none => rw [hg1] at hf; cases hf
            | some ρ1 =>
              rw [hg1] at hf
              simp only at hf
              cases hb1 : sb ρ1 with
              | none => rw [hb1] at hf; cases hf
              | some o =>
                rw [hb1] at hf
                refine .inr ⟨wk.go m H' (R'.ff.trans R'.fh) hlt, fun σ'' H'' => ∃ F'' ρ'', Rp K (upd B a (.frz od (.dT ws))) (upd F a (.frz od (.dT ws))) F'' H'' σ'' ρ'' ∧ Dn.forL fg sb ((Dn.keysT kvs).drop (m + 1)) ρ'' = some (.nx ρ'), fun σ'' H'' ⟨F'', ρ'', R'', h''⟩ => ⟨n - 1, by omega, by omega, F'', ρ'', R'', h''⟩, fun x H'' hy => ?_⟩
                obtain ⟨d', F'', hd', ex, q⟩ := wk.yld m F' H' x H'' R'.ff R'.fh hy hlt
                have ed : d' = (Dn.keysT kvs)[m] := by
                  rw [List.getElem?_eq_getElem hlt] at hd'
                  exact (Option.some.inj hd').symm
                subst ed
                refine hg _ _ F'' H'' σ' ρ0 x _ ρ1 (R'.ext ex) q hg1 _ fun σ2 R2 _ => hb _ _ F'' H'' σ2 ρ1 R2 o hb1 _ ?_
                cases o with
                | nx ρ2 => exact fun F3 H3 σ3 R3 => ⟨F3, ρ2, R3, hf⟩
                | ct ρ2 => exact fun F3 H3 σ3 R3 => ⟨F3, ρ2, R3, hf⟩
                | bk ρ2 =>
                  have e3 := Option.some.inj hf
                  cases e3
                  exact fun F3 H3 σ3 R3 => pp F3 H3 σ3 R3
                | rt d =>
                  have e3 := Option.some.inj hf
                  cases e3
                | exc c =>
                  have e3 := Option.some.inj hf
                  cases e3
          · rw [List.drop_eq_nil_of_le (by omega)] at hf
            have e3 := Option.some.inj hf
            cases e3
            exact .inl ⟨wk.stop m H' (R'.ff.trans R'.fh) (by omega), pp F' H' σ' R'⟩
        refine body _ ?_
        intro F' H' σ' R'
        have hF' : F' a = some (.frz od (.dT ws)) := R'.ff _ _ upd_same
        refine ⟨R'.fh _ _ hF', ?_⟩
        have hF0 : F0 a = none := R.ff.free h4
        refine p (but F' a) (upd H' a (.dT ws)) σ' ⟨fun b o h => ?_, fun b o h => ?_, fun b o h => ?_, fun b o h => ?_, by rw [List.length_set]; exact R'.len, fun j d h => ?_, fun j es h => ?_, fun j es h => ?_, fun j es h => ?_, fun j k b s s' k1 k2 n1 n2 g1 g2 => ?_⟩
        · have hne : b ≠ a := fun z => by subst z; rw [h3] at h; cases h
          rw [upd_ne hne]
          exact R'.bh b o (by rw [upd_ne hne]; exact h)
        · have hne : b ≠ a := fun z => by subst z; rw [hF0] at h; cases h
          rw [but_ne hne]
          exact R'.ff b o (by rw [upd_ne hne]; exact R.ff b o h)
        · obtain ⟨hne, h'⟩ := but_some h
          rw [upd_ne hne]
          exact R'.fh b o h'
        · obtain ⟨hne, h'⟩ := but_some h
          rcases R'.nb b o h' with z | z | z
          · rw [upd_ne hne] at z; exact R.nb b o z
          · rw [upd_ne hne] at z; exact .inr (.inl z)
          · exact .inr (.inr z)
        · by_cases hj : i = j
          · subst hj
            rw [List.getElem?_set_self'] at h
            cases hz : ρ'[i]? with
            | none => rw [hz] at h; cases h
            | some z => rw [hz] at h; cases h
          · rw [List.getElem?_set_ne hj] at h
            obtain ⟨v, q1, q2⟩ := R'.dat j d h
            exact ⟨v, q1, Dp_but hF' q2⟩
        · by_cases hj : i = j
          · subst hj
            rw [List.getElem?_set_self'] at h
            cases hz : ρ'[i]? with
            | none => rw [hz] at h; cases h
            | some z => rw [hz] at h; cases h
          · rw [List.getElem?_set_ne hj] at h
            obtain ⟨b, vs, q1, q2, q3, q4, q5⟩ := R'.own j es h
            have hne : b ≠ a := fun z => by subst z; rw [upd_same] at q3; cases q3
            exact ⟨b, vs, q1, by rw [upd_ne hne]; exact q2, by rw [upd_ne hne] at q3; exact q3, by rw [but_ne hne]; exact q4, DpAll_but hF' q5⟩
        · by_cases hj : i = j
          · subst hj
            rw [List.getElem?_set_self'] at h
            cases hz : ρ'[i]? with
            | none => rw [hz] at h; cases h
            | some z => rw [hz] at h; cases h
          · rw [List.getElem?_set_ne hj] at h
            obtain ⟨b, vs, q1, q2, q3, q4, q5⟩ := R'.ownT j es h
            have hne : b ≠ a := fun z => by subst z; rw [upd_same] at q3; cases q3
            exact ⟨b, vs, q1, by rw [upd_ne hne]; exact q2, by rw [upd_ne hne] at q3; exact q3, by rw [but_ne hne]; exact q4, paired_mono q5 fun _ _ q => ⟨q.1, Dp_but hF' q.2⟩⟩
        · exact absurd h (noFrz_of hno)
        · have conv : ∀ {j : Nat} {s : Dn.Sl}, (ρ'.set i none)[j]? = some (some s) → ρ'[j]? = some (some s) := fun {j s} h => by
            by_cases hj : i = j
            · subst hj
              rw [List.getElem?_set_self'] at h
              cases hz : ρ'[i]? with
              | none => rw [hz] at h; cases h
              | some z => rw [hz] at h; cases h
            · rw [List.getElem?_set_ne hj] at h
              exact h
          exact R'.dist j k b s s' (conv k1) (conv k2) n1 n2 g1 g2
      · cases e
    · cases e
  · cases e
end
end Dw

set_option maxHeartbeats 4400000
/-! Dw6: sorted. -/
namespace Dw
open PySem PySem.Spec PyProof.Rows L2
section
variable {X : Cx}
/-- a value that stands for a datum -/
def Stands (K : PySem.W.Frag) (F : Hp) (u : Value) (d : PyData) : Prop := ∃ x, RelV x u ∧ Dp K F x d
theorem each_of {K : PySem.W.Frag} {F : Hp} : ∀ {vs : List V} {us : List Value} {ds : List PyData}, DpAll K F vs ds → Vals vs us → PySem.W.EachIs (Stands K F) us ds
  | _, _, _, .nil, r => by
    cases r
    exact .nil
  | _, _, _, .cons h t, r => by
    cases r with
    | cons r1 r2 => exact .cons ⟨_, r1, h⟩ (each_of t r2)
theorem of_each {K : PySem.W.Frag} {F : Hp} : ∀ {us : List Value} {ds : List PyData}, PySem.W.EachIs (Stands K F) us ds → ∃ vs, DpAll K F vs ds ∧ Vals vs us
  | _, _, .nil => ⟨[], .nil, .nil⟩
  | _, _, .cons ⟨x, r, h⟩ t => by
    obtain ⟨vs, h1, h2⟩ := of_each t
    exact ⟨x :: vs, .cons h h1, .cons r h2⟩
theorem each_mono {α β : Type} {R S : α → β → Prop} (f : ∀ a b, R a b → S a b) : ∀ {as : List α} {bs : List β}, PySem.W.EachIs R as bs → PySem.W.EachIs S as bs
  | _, _, .nil => .nil
  | _, _, .cons h t => .cons (f _ _ h) (each_mono f t)
theorem depth_mem : ∀ {xs : List PyData} {d : PyData}, d ∈ xs → d.depth ≤ PyData.depthAll xs
  | x :: xs, d, h => by
    rw [PyData.depthAll]
    rcases List.mem_cons.mp h with h | h
    · rw [h]; exact Nat.le_max_left _ _
    · exact Nat.le_trans (depth_mem h) (Nat.le_max_right _ _)
theorem sortOk_of {xs : List PyData} (h : Dn.sortOk xs = true) : PySem.W.AllAlike xs ∧ PySem.W.Sortable xs ∧ PyData.depthAll xs ≤ 50 ∧ xs.length ≤ 1000 := by
  unfold Dn.sortOk at h
  simp only [Bool.and_eq_true, decide_eq_true_eq, List.all_eq_true] at h
  obtain ⟨⟨⟨h1, h2⟩, h3⟩, h4⟩ := h
  refine ⟨fun d hd d' hd' => h1 d hd d' hd', .inl fun d hd => ?_, h3, h4⟩
  have := h2 d hd
  cases d with
  | tuple ys =>
    cases ys with
    | nil => cases this
    | cons y ys => exact ⟨y, ys, rfl⟩
  | none => cases this
  | bool b => cases this
  | int b => cases this
  | str b => cases this
  | list b => cases this
  | dict b => cases this
theorem cr_sortX (hu : X.A.units + 64 < cLine) : CallR X (.builtin "sorted") (rN1 X.K Dn.sortD) := by
  intro pins s σ H xs us Q I r h
  obtain ⟨x, F, d, ds, rfl, hs, wx, hg, q⟩ := h
  obtain ⟨zs, hz, e⟩ := Option.bind_eq_some_iff.mp hg
  split at e
  · rename_i hok
    cases e
    obtain ⟨k1, k2, k3, k4⟩ := sortOk_of hok
    cases d with
    | list ys =>
      cases hz
      obtain ⟨a, vs, rfl, h1, h2⟩ := wx.list hs
      obtain ⟨u, rfl, rx⟩ := vals1 r
      cases rx
      obtain ⟨its, rv, pl, hlen⟩ := I.list h1
      have hE : PySem.W.EachIs (Stands X.K F) its zs := each_of h2 rv
      have hid : zs.map id = zs := List.map_id zs
      have hR : PySem.W.EachIs (fun v b => ∃ as, Reads s.heap v (id b) as) its zs := each_mono (fun v b ⟨x, rr, hd⟩ => Dp.reads I b x v (Dp_mono hs hd) rr) hE
      refine PySem.W.sorted_data (enc := id) pl.isList hE hR (by rw [hid]; exact k1) (by rw [hid]; exact k2) (Nat.le_of_lt (lineM (by omega))) (fun b hb => ?_) fun out hol hout => ?_
      · have := depth_mem hb
        show X.A.units + 2 + b.depth < cLine
        omega
      · obtain ⟨ws, q1, q2⟩ := of_each hout
        have hold : ∀ b o, s.heap.get? b = some o → (sortedAll s.heap its out.toArray).get? b = some o := fun b o e => sortedAll_old e
        obtain ⟨n, hat⟩ := sortedAll_at s.heap its out.toArray
        have hfree : H (s.heap.objs.size + 1) = none := I.hok.fresh (Nat.le_succ _)
        have hwl : ws.length ≤ sizeLine := by
          rw [q2.length, hol]
          exact Nat.le_of_lt (lineM (by omega))
        have I2 : Inv X pins σ (upd H (s.heap.objs.size + 1) (.lst ws)) { s with heap := sortedAll s.heap its out.toArray } :=
          I.laid (t' := s.toks) hold (Nat.le_succ _) ⟨hwl, out, n, q2, hat⟩
        refine ⟨.ref (s.heap.objs.size + 1), _, I2, rfl, q _ ws F _ (Ext.freshO hs _ hfree) hfree (hs.free hfree) upd_same ?_⟩
        exact q1
    | none => cases hz
    | bool b => cases hz
    | int b => cases hz
    | str b => cases hz
    | tuple b => cases hz
    | dict b => cases hz
  · cases e
end
end Dw

set_option maxHeartbeats 4400000
namespace Dw
open PySem PySem.Spec PyProof.Rows L2
/-- a def that answers g -/
structure Ca (P : Program) (w : World) (K : PySem.W.Frag) (mg : Str → Option Value) (base : Heap) (cl : Str → Value) (CX : CXT) (x : Str) (k n : Nat) (g : Dn.FF) (f : Addr) (fd : FuncData) (ps : List Str) : Prop where
  ok : FnOk P w K mg base CX k f fd ps (spF K cl n g)
  gl : mg x = some (.ref f)
  kp : PySem.W.keepIn K (.ref f) = true
  bi : Binds K fd ps []
def Cal (P : Program) (w : World) (K : PySem.W.Frag) (mg : Str → Option Value) (base : Heap) (cl : Str → Value) (CX : CXT) (x : Str) (k n : Nat) (g : Dn.FF) : Prop := ∃ f fd ps, Ca P w K mg base cl CX x k n g f fd ps
def Df (K : PySem.W.Frag) (mg : Str → Option Value) (x : Str) (st : Stmt) : Prop := ∃ f fd, Fun K x x st f fd ∧ mg x = some (.ref f)
/-- how many arguments -/
inductive AL : Dn.AF → Nat → Prop
  | nil : AL Dn.aNil 0
  | cons {fa : Dn.EF} {fr : Dn.AF} {n : Nat} : AL fr n → AL (Dn.aCons fa fr) (n + 1)
theorem AL.len {fs : Dn.AF} {n : Nat} (h : AL fs n) : ∀ ρ ds, fs ρ = some (.ok ds) → ds.length = n := by
  induction h with
  | nil =>
    intro ρ ds e
    cases e
    rfl
  | cons _ ih =>
    intro ρ ds e
    rcases bnd_cases e with ⟨a, e1, e2⟩ | ⟨c, _, e2⟩
    · rcases bnd_cases e2 with ⟨b, e3, e4⟩ | ⟨c, _, e4⟩
      · cases e4
        rw [List.length_cons, ih ρ b e3]
      · cases e4
    · cases e2
end Dw
namespace Dw
open PySem PySem.Spec PyProof.Rows L2
/-- a def as the top has written it -/
def DfK (K : PySem.W.Frag) (x : Str) (st : Stmt) : Prop := ∃ (f : Addr), PySem.W.nsIn K mainGlobals x = some (some (.ref f)) ∧ ∃ (oc : Value) (od : Option Addr) (kV dc pm : Value) (an : Option Addr) (cd ct : Value) (sl : Array (Option Value)),
  K.lookup f = some ⟨oc, od, .func (PySem.W.fnOf x x (defArgs st) (defBody st) (defScope st) .none kV dc pm an cd ct), sl⟩ ∧ PySem.W.codeIn K cd x = true ∧ PySem.W.keepIn K (.ref f) = true
theorem DfK.df {K : PySem.W.Frag} {h : Heap} {mg : Str → Option Value} {x : Str} {st : Stmt} (X : K.In h) (G : h.Ns mainGlobals mg) (d : DfK K x st) : Df K mg x st := by
  obtain ⟨f, a, oc, od, kV, dc, pm, an, cd, ct, sl, l, c, k⟩ := d
  exact ⟨f, _, fun_mk l c k, PySem.W.mg_of X G a⟩
def spL (K : PySem.W.Frag) (g : Dn.FF) : Sp := spF K (fun _ => .none) 1 (noX g)
theorem law_end {P : Program} {w : World} {K : PySem.W.Frag} {mg : Str → Option Value} {cl : Str → Value} {fa : Addr} {x p : Str} {st : Stmt} {k : Nat} {g : Dn.FF} (hfa : mg x = some (.ref fa)) (D : Df K mg x st) (hb : ∀ f fd, Fun K x x st f fd → ∀ (s : Shared) (u : Value), BindsTo s fd ⟨[u], []⟩ [(p, u)])
    (h : ∀ base : Heap, K.In base → base.Ns mainGlobals mg → ∀ f fd, Fun K x x st f fd → FnOk P w K mg base CX0 k f fd [p] (spF K cl 1 (noX g))) :
    ∃ fd : FuncData, (∀ (s : Shared) (u : Value), BindsTo s fd ⟨[u], []⟩ [(p, u)]) ∧ ∀ base : Heap, K.In base → base.Ns mainGlobals mg → FnOk P w K mg base CX0 k fa fd [p] (spL K g) := by
  obtain ⟨f, fd, F, gl⟩ := D
  rw [hfa] at gl
  cases gl
  exact ⟨fd, hb _ _ F, fun base b1 b2 => (h base b1 b2 _ _ F).imp fun vs H Q E ⟨F, ds, r, h1, h2, h3, h4, h5, h6⟩ => ⟨F, ds, r, h1, h2, h3, h4, h5, fun c ec => by
    obtain ⟨_, d, hd⟩ := noX_ok h4
    rw [hd] at ec; cases ec⟩⟩
theorem dp_intsL {K : PySem.W.Frag} {F : Hp} : ∀ ns : List Int, DpAll K F (ns.map V.int) (ns.map .int)
  | [] => .nil
  | n :: ns => .cons (.int n) (dp_intsL ns)
theorem law_sp {K : PySem.W.Frag} {H : Hp} {a : Addr} {ns : List Int} {g : Dn.FF} (hS : SqL K H a (ns.map V.int)) (h : Dn.noX g [.list (ns.map .int)] = some (.ok (.bool true))) : spL K g [.ref a] H (fun v _ => v = .bl true) fun _ _ _ => False :=
  ⟨H, [.list (ns.map .int)], .ok (.bool true), rfl, Same.refl _, .cons (.lst hS (dp_intsL ns)) .nil, h, fun d e v F' H' x q => by
    cases e
    cases q
    rfl, fun c e => by cases e⟩
end Dw

set_option maxHeartbeats 4400000
/-! enumerate, of a tuple too -/
namespace Dw
open PySem PySem.Spec PyProof.Rows L2
/-! ### enumerate(v) is made -/
/-- behind h two new objects: o, an iterator, and the counter over it -/
structure Enum2 (h h1 : Heap) (o : Obj) : Prop where
  cnt : IsEnum h1 (h.objs.size + 1) h.objs.size 0 .none
  itr : h1.get? h.objs.size = some o
  more : ∀ b x, h.get? b = some x → h1.get? b = some x
abbrev enumNew (it : Addr) : Obj := { cls := .type "enumerate", data := .fields #[.none, .bool false, .ref it, rawInt 0, .none, .none] }
theorem enum2 (h : Heap) {o : Obj} (free : o.isFreed = false) : Enum2 h ((h.push o).push (enumNew h.objs.size)) o := by
  have c := Heap.get?_push_size (h.push o) (o := enumNew h.objs.size) rfl
  rw [Heap.size_push] at c
  exact ⟨c, Heap.get?_push_of_some _ (Heap.get?_push_size _ free), fun b x e => Heap.get?_push_of_some _ (Heap.get?_push_of_some _ e)⟩
theorem meets_enum1 {v : Value} {o : Obj} {H : Heap → Prop} (B : Begins v o H) :
    Meets (Builtin.«enumerate.__new__» ⟨[.type "enumerate", v], []⟩) (fun _ R s => H s.heap ∧ R (.ok (.ret (.ref (s.heap.objs.size + 1)))) { s with heap := (s.heap.push o).push (enumNew s.heap.objs.size) }) :=
  .of_wp fun prog w A R ⟨hp, gs, dr, tk, os⟩ ⟨hH, fin⟩ => by
    have sub := sub_enumerate
    have starts : ∀ {A1 : Around} {E1 Q1 : Value → Shared → Prop}, Q1 (.ref hp.objs.size) ⟨hp.push o, gs, dr, tk, os⟩ → wpAny (model prog w) A1 (pyIter v) Q1 E1 ⟨hp, gs, dr, tk, os⟩ := fun q => B.iter prog w _ _ _ _ hH q
    have fin : R (.ok (.ret (.ref (hp.push o).objs.size))) ⟨(hp.push o).push (enumNew hp.objs.size), gs, dr, tk, os⟩ := by rw [Heap.size_push]; exact fin
    wp_walk using starts
    refine wpAny_stack_any fun _ => wpAny_pure ?_
    split
    · next c _ _ _ _ _ => cases (c == Value.type "enumerate") <;> (wp_walk using starts; exact ⟨_, rfl, fin⟩)
    · wp_walk using starts
      exact ⟨_, rfl, fin⟩
theorem call_enum1 {prog : Program} {w : World} {A : Around} {E : Value → Shared → Prop} {s : Shared} {v : Value} {o : Obj} {H : Heap → Prop} {Q : Value → Shared → Prop} (B : Begins v o H) (hH : H s.heap)
    (fin : ∀ h1, Enum2 s.heap h1 o → Q (.ref (s.heap.objs.size + 1)) { s with heap := h1 }) : wpAny (model prog w) A (call (.type "enumerate") [v]) Q E s :=
  callType_new F.called_enumerate (by decide) (F.typeCall_enumerate_1 _) (F.newCall_enumerate_1 _) (fun obj => F.args_object_init_2 obj _) F.entry_enumerate_new (meets_enum1 B) ⟨hH, ⟨_, (enum2 s.heap B.free).cnt, rfl⟩, fin _ (enum2 s.heap B.free)⟩
/-! ### over a tuple -/
/-- the tuple at a, n long -/
def AtT (K : PySem.W.Frag) (a : Addr) (n : Nat) (H : Hp) (xs : List V) : Prop := SqT K H a xs ∧ xs.length = n
/-- its items, counted -/
def counted (xs : List V) (i : Nat) : Option (V × V) := xs[i]?.map fun x => (.int (i : Nat), x)
def IteT (K : PySem.W.Frag) (a : Addr) (n : Nat) : It := Itp (AtT K a n) counted n
theorem src_enumT {X : Cx} {pins : List (Addr × Obj)} {σ : L2.St} {H : Hp} {s : Shared} {a e it : Addr} {n : Nat} {xs : List V} (ne : e ≠ it) (calm : X.calm = true) (I : Inv X pins σ H s) (free : ∀ b ∈ [e, it], H b = none) (hx : AtT X.K a n H xs) :
    Src (AtT X.K a n) counted n X.prog X.w X.A e [e, it] (fun i h => (∃ old, IsEnum h e it ((i : Nat) : Int) old) ∧ h.IsTupleIter it a i ∧ i ≤ n) s.heap xs := by
  obtain ⟨hq, rfl⟩ := hx
  obtain ⟨its, rv, p, -⟩ := I.tuple hq.l2
  have off : ∀ b ∈ [e, it], a ≠ b := fun b hb z => by
    have q := free b hb
    rw [← z, show H a = _ from hq] at q
    cases q
  have Wk := WalksT.enumerateD (prog := X.prog) (w := X.w) (A := X.A) (Draws.tuple (A := X.A.in1) (I.ok.hd calm) it a (off it (by simp)) its.toArray) e ne (by simp [ne, (off e (by simp)).symm]) (by simp)
  rw [show its.toArray.size = xs.length by rw [List.size_toArray, rv.length]] at Wk
  refine ⟨_, _, _, _, Wk, fun i st => ⟨st.1, st.2.1, p⟩, fun i g le st => ⟨st.1, st.2.1, le⟩, fun i vals pr hr hP => ?_⟩
  obtain ⟨t, u, hu, rfl⟩ := hP
  obtain ⟨x, hx, rfl⟩ := Option.map_eq_some_iff.mp hr
  obtain ⟨u', hu', ru⟩ := rv.get hx
  obtain rfl : u' = u := Option.some.inj (hu'.symm.trans (by simpa using hu))
  exact ⟨_, _, rfl, ⟨_, rfl⟩, ru⟩
theorem turn_enumT {P : Program} {w : World} {K : PySem.W.Frag} {elts : List Expr} {kk : Nat} {tpos : Pos} (a e it : Addr) (n : Nat) (ne : e ≠ it) :
    Turn P w K (.Tuple elts kk tpos) (IteT K a n) [e, it] e (fun i h => (∃ old, IsEnum h e it ((i : Nat) : Int) old) ∧ h.IsTupleIter it a i ∧ i ≤ n) :=
  turn_pairs (wr := [e, it]) (by simp) (fun _ hb => hb) (fun _ _ st => st.2.2)
    (fun i h ⟨⟨old, he⟩, ⟨o, ho, _, hd⟩, _⟩ => by
      simp only [List.mem_cons, List.not_mem_nil, or_false, forall_eq_or_imp, forall_eq]
      exact ⟨⟨_, he, no_cell rfl⟩, o, ho, no_cell hd⟩)
    (fun i h h' ⟨⟨old, he⟩, hi, le⟩ k => ⟨⟨old, k e (by simp) _ he⟩, hi.at (k it (by simp)), le⟩)
    (fun A i s Q E ⟨⟨_, he⟩, _⟩ q => wpAny_pyIter_enum he q)
    (fun X pins σ H s d d' eK I h1 h2 => by
      have q := h1.1.symm.trans h2.1
      cases q
      rfl)
    fun X eK calm pins σ H s xs I free hx => by
      subst eK
      exact src_enumT ne calm I free hx
/-- a list or a tuple -/
def iEnumA (K : PySem.W.Frag) (ta : TA) : TI := fun σ H R => ta σ H fun vs H1 => ∃ a xs, vs = [.ref a] ∧ ((SqL K H1 a xs ∧ R (Ite K a) H1) ∨ (SqT K H1 a xs ∧ R (IteT K a xs.length) H1))
theorem pi_enumA {X : Cx} {e : Expr} {ta : TA} {p pos tpos : Pos} {elts : List Expr} {kk : Nat} (hg : Gl X "enumerate") (hm : X.mg "enumerate" = none) (ha : PA X [e] ta) (hs : starEach [e] X.env = [(false, eval e X.env)] := by rfl) :
    PI X (.Tuple elts kk tpos) (.Call (.Name "enumerate" p) [e] [] pos) (iEnumA X.K ta) := by
  refine ⟨fun pins s σ H R I h => Call_ (ld_blt I hg hm boot_enumerate (PyProof.Rows.callWith_type1 (thn (ha.run pos pins s σ H _ I h) fun us s1 got => ?_) hs rfl))⟩
  obtain ⟨vs, H1, I1, r1, a, xs, rfl, q⟩ := got
  obtain ⟨u, rfl, ru⟩ := vals1 r1
  obtain rfl : u = .ref a := ru
  have new : ∀ b ∈ [s1.heap.objs.size + 1, s1.heap.objs.size], s1.heap.objs.size ≤ b := by
    intro b hb
    simp only [List.mem_cons, List.not_mem_nil, or_false] at hb
    exact hb.elim (fun z => z ▸ Nat.le_succ _) (fun z => z ▸ Nat.le_refl _)
  rcases q with ⟨hq, q⟩ | ⟨hq, q⟩
  · obtain ⟨its, -, p, -⟩ := I1.list hq
    exact call_enum1 (begins_list a its.toArray) p.isList fun h1 En => wpAny_pyIter_enum En.cnt (pie_new I1 (turn_enum a (s1.heap.objs.size + 1) s1.heap.objs.size) En.more new ⟨⟨.none, En.cnt⟩, ⟨_, En.itr, rfl, rfl⟩, Nat.succ_ne_self _⟩ q)
  · obtain ⟨its, -, p, -⟩ := I1.tuple hq.l2
    exact call_enum1 (begins_tuple a its.toArray) p fun h1 En => wpAny_pyIter_enum En.cnt (pie_new I1 (turn_enumT a (s1.heap.objs.size + 1) s1.heap.objs.size xs.length (Nat.succ_ne_self _)) En.more new ⟨⟨.none, En.cnt⟩, ⟨_, En.itr, rfl, rfl⟩, Nat.zero_le _⟩ q)
end Dw
namespace Dw
open PySem PySem.Spec PyProof.Rows L2
theorem walk_enumT {K : PySem.W.Frag} {F : Hp} {a : Addr} {vs : List V} {ds : List PyData} (h : SqT K F a vs) (q : DpAll K F vs ds) : Walk K (IteT K a vs.length) F (Dn.enumL 0 ds) := by
  have len : (Dn.enumL 0 ds).length = vs.length := (enumL_len ..).trans (DpAll_len q).symm
  have Wk : Walk K (Itp (AtT K a vs.length) counted (Dn.enumL 0 ds).length) F (Dn.enumL 0 ds) := walk_pairs vs (fun H sm => ⟨sqt_mono sm h, rfl⟩) fun i lt => by
    rw [len] at lt
    obtain ⟨d, hd, hv⟩ := DpAll_getV q (List.getElem?_eq_getElem lt)
    have row := enumL_get (k := 0) hd
    rw [Nat.zero_add] at row
    exact ⟨(.int (i : Nat), vs[i]), _, d, by simp [counted, List.getElem?_eq_getElem lt], row, .int _, hv⟩
  rw [len] at Wk
  exact Wk
theorem rdi_enumA {K : PySem.W.Frag} {cl : Str → Value} {E : XK} {t : TE} {f : Dn.EF} (h : Rd K cl E t f) : RdI K cl E (iEnumA K (tCons t tNil)) (Dn.iEnumA f) := fun B F0 F H σ ρ R r e Q ok ex => by
  rcases bnd_cases e with ⟨a, e1, e2⟩ | ⟨c, e1, rfl⟩
  · refine h B F0 F H σ ρ R _ e1 _ (fun d ed v F1 H1 x1 w => ?_) (fun c ec => by cases ec)
    cases ed
    obtain ⟨ds, ez, rfl⟩ := lft_cases e2
    cases w with
    | lst hs ha =>
      cases ez
      exact ⟨_, _, rfl, .inl ⟨x1.s.seq hs, ok _ rfl _ F1 H1 x1 (walk_enum hs ha)⟩⟩
    | tup hs ha =>
      cases ez
      exact ⟨_, _, rfl, .inr ⟨sqt_mono x1.s hs, ok _ rfl _ F1 H1 x1 (walk_enumT hs ha)⟩⟩
    | non => cases ez
    | bl b => cases ez
    | int i => cases ez
    | str i => cases ez
  · exact h B F0 F H σ ρ R _ e1 _ (fun d ed => by cases ed) (fun c' ec F' H' x => by cases ec; exact ex c rfl F' H' x)
end Dw

set_option maxHeartbeats 4400000
/-! Dw9: exceptions. any(list) while one is handled. -/
namespace Dw
open PySem PySem.Spec PyProof.Rows L2 HotX
section
variable {prog : Program} {w : World} {A : Around} {E : Value → Shared → Prop} {s : Shared}
/-- the handled exception stays where its object does -/
theorem hot_keep {x : Addr} {h h1 : Heap} (hot : HotAt A x h) (k : ∀ o, h.get? x = some o → h1.get? x = some o) : HotAt A x h1 :=
  let ⟨hh, o, vs, ho, hd, hc⟩ := hot
  ⟨hh, o, vs, k o ho, hd, hc⟩
theorem hot_lt {x : Addr} {h : Heap} (hot : HotAt A x h) : x < h.objs.size := let ⟨_, _, _, ho, _⟩ := hot; Heap.lt_size ho
/-- StopIteration is raised anew while the exception at x is handled -/
theorem stop_hot {α : Type} {x : Addr} {Q : α → Shared → Prop} (hot : HotAt A x s.heap) (q : ∀ a h1, (∀ b o, s.heap.get? b = some o → h1.get? b = some o) → (∃ o, h1.get? a = some o ∧ o.cls = .type "StopIteration") → E (.ref a) { s with heap := h1 }) :
    wpAny (model prog w) A (newExc (.type "StopIteration") [] >>= raiseNew : Sem α) Q E s := by
  unfold newExc newTuple
  wp_walk
  have two : ∀ {o1 o2 : Obj} {b : Addr} {o : Obj}, s.heap.get? b = some o → ((s.heap.push o1).push o2).get? b = some o := fun e => Heap.get?_push_of_some _ (Heap.get?_push_of_some _ e)
  refine raiseNew_hot (hot_keep hot fun _ e => two e) (Nat.ne_of_lt (by rw [Heap.size_push]; exact Nat.lt_succ_of_lt (hot_lt hot))) (Heap.get?_push_size _ rfl) rfl (by simp; omega) (q _ _ (fun b o e => ?_) ⟨_, Heap.get?_update_self _ (Heap.get?_push_size _ rfl) rfl, rfl⟩)
  exact (Heap.get?_update_other _ _ (Nat.ne_of_gt (Heap.lt_size (Heap.get?_push_of_some _ e)))).trans (two e)
/-- a list's iterator at its end, meanwhile -/
theorem nextEnd_hot {it l x : Addr} {i : Nat} {vs : Array Value} {Q : Option Value → Shared → Prop} (hot : HotAt A x s.heap) (ne : x ≠ it) (hit : s.heap.IsListIter it l i) (hl : s.heap.IsList l vs) (last : vs[i]? = none)
    (q : ∀ h1, (∀ b o, b ≠ it → s.heap.get? b = some o → h1.get? b = some o) → Q none { s with heap := h1 }) : wpAny (model prog w) A (pyNext (.ref it)) Q E s := by
  have ⟨o, ho, _, hd⟩ := hit
  have ⟨ol, hol, _, _, hdl⟩ := hl
  have lst : ∀ {A1 : Around} {E1 Q1 : Value → Shared → Prop}, Q1 (.ref l) s → wpAny (model prog w) A1 (field (.ref it) 0) Q1 E1 s := wpAny_field ho hd rfl
  have at_ : ∀ {A1 : Around} {E1 Q1 : Value → Shared → Prop}, Q1 (.int i 0) s → wpAny (model prog w) A1 (field (.ref it) 1) Q1 E1 s := wpAny_field ho hd rfl
  have its : ∀ {A1 : Around} {E1 : Value → Shared → Prop} {Q1 : Option (Array Value) → Shared → Prop}, Q1 (some vs) s → wpAny (model prog w) A1 (seqItems? (.ref l)) Q1 E1 s := wpAny_seqItems hol hdl
  have sb := Heap.SameBut.update s.heap it (Obj.mapFields (·.setIfInBounds 0 .none))
  unfold pyNext
  refine wpAny_bind (wpAny_attempt (wpAny_callSpecial?_slot hit.typeIs slot_listiter_next (wpAny_call_entry slot_listiter_next hit.typeIs entry_listiter_next ?_ (args_listiter_next _))))
  unfold Builtin.«list_iterator.__next__»
  wp_walk using lst, at_, its
  rw [show (i : Int).toNat = i from Int.toNat_natCast i, last]
  refine wpAny_bind (wpAny_rule (wpAny_bind (wpAny_setField ho hd (Nat.zero_lt_succ _) (stop_hot (hot_keep hot fun o e => (sb.2 x ne).trans e) fun a h1 k ⟨oe, he, hc⟩ => ?_))))
  exact wpAny_bind (wpAny_isInstance (T := "StopIteration") (b := true) ⟨oe, he, hc⟩ isSubtype_stop (wpAny_pure (q h1 fun b ob nb e => k b ob ((sb.2 b nb).trans e))))
end
/-- a list gone through while an exception is handled -/
theorem walks_hot {prog : Program} {w : World} {A : Around} {x : Addr} (it l : Addr) (nl : l ≠ it) (nx : x ≠ it) (vs : Array Value) :
    Walks prog w A it [it, l, x] [it] vs.size (fun i v => vs[i]? = some v) (fun i h => (h.IsListIter it l i ∧ h.IsList l vs) ∧ HotAt A x h) where
  sub := by simp
  self := fun _ _ _ _ st => wpAny_pyIter_listiter st.1.1
  frame := fun _ _ _ ⟨⟨hi, hl⟩, hot⟩ k => ⟨⟨hi.at (k it (by simp)), hl.at (k l (by simp))⟩, hot_keep hot (k x (by simp))⟩
  item := fun i s Q E lt ⟨⟨hi, hl⟩, hot⟩ q => wpAny_pyNext_list_item hi hl (Array.getElem?_eq_getElem lt) fun h1 hi1 sb =>
    q _ h1 s.toks (Array.getElem?_eq_getElem lt) ⟨⟨hi1, hl.at fun o e => (sb.2 l nl).trans e⟩, hot_keep hot fun o e => (sb.2 x nx).trans e⟩ fun b o nb e => (sb.2 b fun z => nb (by simp [z])).trans e
  done := fun s Q E ⟨⟨hi, hl⟩, hot⟩ q => nextEnd_hot hot nx hi hl (Array.getElem?_eq_none (Nat.le_refl _)) fun h1 k => q h1 s.toks fun b o nb e => k b o (fun z => nb (by simp [z])) e
theorem cr_anyHot {X : Cx} (hc : L2H.HotC X) : CallR X (.builtin "any") (rAny X.K) := fun pins s σ H vs us Q I rv ⟨a, bs, ev, hs, q⟩ => by
  subst ev
  obtain ⟨x, hot⟩ := hc.at I
  obtain ⟨its, ri, hl, -⟩ := I.list hs
  have eb := ri.bls
  rw [Vals.ref1 rv]
  refine call_any_walk (iter_any hl.isList fun s2 e2 st nl => ⟨_, _, _, _, _, _, _, rfl, walks_hot (A := X.A.in1) (x := x) _ a nl (Nat.ne_of_lt (hot_lt hot)) its.toArray, ⟨st, ?_⟩, truth_bools eb, fun h1 tk k => ?_⟩)
  · subst e2
    exact hot_keep (A := X.A.in1) hot fun o e => Heap.get?_push_of_some _ e
  · subst e2
    refine ⟨.bl (bs.any id), H, I.kept fun b o e => k b o (fun z => Nat.lt_irrefl _ (List.mem_singleton.mp z ▸ Heap.lt_size e)) (Heap.get?_push_of_some _ e), ?_, q⟩
    show Value.bool _ = .bool _
    rw [← any_range bs, eb, List.size_toArray, List.length_map]
end Dw

set_option maxHeartbeats 4400000
/-! Dw10: raise, try. -/
namespace Dw
open PySem PySem.Spec PyProof.Rows L2
theorem passN {X : Cx} : Passes (L2N.CX X.prog X.w) X E0 := fun _ _ _ _ _ _ _ h => by
  obtain ⟨_, _, _, _, _, _, _, _, _, _, _, _, z⟩ := h
  exact z.elim
theorem takesN {X : Cx} : L2N.Takes X (fun _ _ _ _ => False) := fun _ _ x => by
  obtain ⟨_, _, _, _, _, _, _, _, _, _, _, _, _, _, _, _, z⟩ := x
  exact z.elim
section
variable {P : Program} {w : World} {K : PySem.W.Frag} {mg : Str → Option Value} {base : Heap} {cl : Str → Value}
/-- a def that may raise -/
theorem fn_okN {x qual : Str} {st : Stmt} {f : Addr} {fd : FuncData} {N ps : List Str} {k n : Nat} {b : Dn.SF} (F : Fun K x qual st f fd) (S : FnScope N ps (defScope st)) (hn : ps.length = n)
    (hbody : ∀ (cdv : Value) (A : Around) (outer : List Env) (s : Shared) (H : Hp) (E : XK), Room k (A.deeper (envOfC qual (defScope st) s.heap.objs.size f cdv)) →
      ∃ t, PSs (cxOf (L2N.CX P w) P w K mg base N qual (defScope st) f cdv A outer s H E) (defBody st) t ∧ RdS K cl E t b) : FnOk P w K mg base (L2N.CX P w) (k + 1) f fd ps (spF K cl n (Dn.runF n N.length b)) := by
  obtain ⟨oc, od, kV, doc, pm, an, cdv, ct, osl, rfl, lk, hcd⟩ := F.ex
  refine fn_of lk hcd S (fun vs H Q E h => ?_) fun A outer s H vs Q E hr hsp => ?_
  · obtain ⟨_, _, _, h1, _⟩ := h
    rw [h1, hn]
  · obtain ⟨t, h1, h2⟩ := hbody _ A outer s H E hr
    exact ⟨t, h1, run_body h2 hsp⟩
end
/-! raise -/
def tRz (C : Addr) (E : XK) : TS := fun _ _ H => E (.ref C) none H
structure XR (K : PySem.W.Frag) (mg : Str → Option Value) (x : Str) (C : Addr) : Prop where
  g : mg x = some (.ref C)
  k : PySem.W.keepIn K (.ref C) = true
  q : PySem.W.excIn K C [.type "ValueError", .type "Exception", .type "BaseException", .type "object"] "ValueError.__new__" = true
  s : PySem.W.subIn K (.ref C) (.type "BaseException") = some true
  t : PySem.W.typeIn K (.ref C) = some (.type "type")
theorem ps_raiseN {X : Cx} {E : XK} {x m : Str} {j : Nat} {p p2 pos pos2 : Pos} {C : Addr} (hc : X.calm = true) (tk : L2N.Takes X (fun cls d _ H => E cls d H)) (r : XR X.K X.mg x C) (hg : Gl X x) (hdb : (x == ("__debug__" : Str)) = false := by decide) :
    PS X (.Raise (some (.Call (.Name x p) [.Constant (.str m) j p2] [] pos)) none pos2) (tRz C E) :=
  L2N.ps_raise hc tk (L2N.pmk_own F.excBase_ValueError r.q r.g r.k (raises_own r.s r.t) hg hdb)
theorem rds_raise {K : PySem.W.Frag} {cl : Str → Value} {E : XK} {C : Addr} {c : Str} (h : cl c = .ref C) : RdS K cl E (tRz C E) (Dn.sExc c) := fun B F0 F H σ ρ R r e D p => by
  cases e
  have := p H R.bh
  rw [h] at this
  exact this
/-- a raising def, where it does not raise -/
theorem rd_callN {K : PySem.W.Frag} {cl : Str → Value} {E : XK} {g : Dn.FF} {t : TA} {n : Nat} {fs : Dn.AF} (h : RdA K cl E t fs) (hn : ∀ ρ ds, fs ρ = some (.ok ds) → ds.length = n) : Rd K cl E (tCall (spF K cl n g) [] E0 t) (Dn.eCall (noX g) fs) := fun B F0 F H σ ρ R r e Q ok ex => by
  rcases bnd_cases e with ⟨a, e1, e2⟩ | ⟨c, e1, rfl⟩
  · refine h B F0 F H σ ρ R _ e1 _ (fun d ed vs F1 H1 x1 w1 => ?_) (fun c ec => by cases ec)
    cases ed
    obtain ⟨e3, d0, hd0⟩ := noX_ok e2
    refine ⟨F1, a, r, ?_, x1.s, by rw [List.append_nil]; exact w1, e3, fun d ed v F' H' x q => ok d ed v F' H' (x1.trans x) q, fun c ec => ?_⟩
    · rw [List.append_nil, DpAll_len w1]
      exact hn ρ a e1
    · rw [hd0] at ec; cases ec
  · exact h B F0 F H σ ρ R _ e1 _ (fun d ed => by cases ed) (fun c' ec F' H' x => by cases ec; exact ex c rfl F' H' x)
theorem passT {X : Cx} {E : XK} (tk : L2N.Takes X (fun cls d _ H => E cls d H)) : Passes (L2N.CX X.prog X.w) X E := L2N.passes_call tk fun _ _ _ _ h => h
/-! ### meanings as readings -/
section
variable {K : PySem.W.Frag} {cl : Str → Value}
def tSem (K : PySem.W.Frag) (cl : Str → Value) (E : XK) (b : Dn.SF) : TS := fun D σ H => ∃ B F0 F ρ r, Rp K B F0 F H σ ρ ∧ b ρ = some r ∧ Post K cl E B F0 D r
theorem rds_sem {E : XK} {b : Dn.SF} : RdS K cl E (tSem K cl E b) b := fun B F0 F H σ ρ R r e D p => ⟨B, F0, F, ρ, r, R, e, p⟩
theorem pss_sem {X : Cx} {E : XK} {st : List Stmt} {t : TS} {b : Dn.SF} (h : PSs X st t) (r : RdS K cl E t b) : PSs X st (tSem K cl E b) :=
  ⟨fun pins s σ H D I ⟨B, F0, F, ρ, o, R, e, p⟩ => h.run pins s σ H D I (r B F0 F H σ ρ R o e D p)⟩
theorem noOwn_at {ρ : Dn.Env} (h : Dn.noOwn ρ = true) {i : Nat} {s : Dn.Sl} (e : ρ[i]? = some (some s)) : ∃ d, s = .dat d := by
  unfold Dn.noOwn at h
  have := List.all_eq_true.mp h _ (List.mem_of_getElem? e)
  cases s with
  | dat d => exact ⟨d, rfl⟩
  | own _ => cases this
  | ownT _ => cases this
  | frzT _ => cases this
theorem rp_base {B F0 F H : Hp} {σ : L2.St} {ρ : Dn.Env} (R : Rp K B F0 F H σ ρ) (n : Dn.noOwn ρ = true) {B' F0' : Hp} (h1 : Same B' H) (h2 : Same F0' F) (h3 : ∀ b o, F b = some o → F0' b = some o ∨ B' b = none ∨ ∃ xs, o = .tup xs) : Rp K B' F0' F H σ ρ where
  bh := h1
  ff := h2
  fh := R.fh
  nb := h3
  len := R.len
  dat := R.dat
  own := fun i ds e => by
    obtain ⟨d, hd⟩ := noOwn_at n e
    cases hd
  ownT := fun i ds e => by
    obtain ⟨d, hd⟩ := noOwn_at n e
    cases hd
  frzT := fun i ds e => by
    obtain ⟨d, hd⟩ := noOwn_at n e
    cases hd
  dist := fun i j a s s' e _ q => by
    obtain ⟨d, hd⟩ := noOwn_at n e
    exact absurd hd (q d)
end
/-! ### try -/
/-- the suite: slot i holds the exception; x is given back -/
def tSuite (K : PySem.W.Frag) (i : Nat) (v : PyData) (a : Addr) : TS := fun D σ H => σ[i]? = some (some (.ref a)) ∧ H a = none ∧ ∀ (x : V) (H' : Hp), Same H H' → (∀ F, Dp K F x v) → D.rt x H'
theorem nb_back {B F0 F : Hp} {H F' : Hp} (bh : Same B H) (nb : ∀ b o, F b = some o → F0 b = some o ∨ B b = none ∨ ∃ xs, o = .tup xs) (nb' : ∀ b o, F' b = some o → F b = some o ∨ H b = none ∨ ∃ xs, o = .tup xs) : ∀ b o, F' b = some o → F0 b = some o ∨ B b = none ∨ ∃ xs, o = .tup xs := fun b o e => by
  rcases nb' b o e with q | q | q
  · exact nb b o q
  · right; left
    cases e2 : B b with
    | none => rfl
    | some o2 =>
      have := bh b o2 e2
      rw [q] at this
      cases this
  · exact .inr (.inr q)
theorem ps_tryC {X : Cx} {cl : Str → Value} {E' : XK} {x n c : Str} {C : Addr} {i : Nat} {body suite : List Stmt} {b₀ : Stmt} {np pos pos' : Pos} {b : Dn.SF} {v : PyData} (hs : X.stack = X.env :: X.outer) (hf : X.env.frame = some X.env.locals) (hN : X.N.Nodup) (hi : X.N[i]? = some n) (hln : X.env.kindOf n = some .local)
    (hc : Names X x (.ref C)) (hcl : cl c = .ref C) (hex : PySem.W.exmOne X.K (.ref C) (.ref C) = some true)
    (hb : ∀ (E : XK) (pn : List (Addr × Obj)) (xe : Value → Shared → Prop), Passes (L2N.CX X.prog X.w) (X.tr pn xe) E → ∃ t, PSs (X.tr pn xe) body t ∧ RdS X.K cl E t b)
    (hsu : ∀ (a : Addr) (oe : Obj) (pn : List (Addr × Obj)), L2N.Zn (.ref C) none oe → (∃ vs, oe.data = .fields vs) → PSs (X.suite a ((a, oe) :: pn)) (b₀ :: suite) (tSuite X.K i v a)) :
    PS X (.Try body [.ExceptHandler (some (.Name x np)) (some n) (b₀ :: suite) pos'] [] [] pos) (tSem X.K cl E' (Dn.sTry b c v)) := by
  have h0 := L2N.ps_try_as (X := X) (x := x) (n := n) (c := .ref C) (i := i) (body := body) (suite := suite) (b₀ := b₀) (np := np) (pos := pos) (pos' := pos')
    (tb := fun W => tSem X.K cl (fun cls d H => ∀ σ : L2.St, σ.length = X.N.length → W cls d σ H) b) (ts := fun a cls d => fun D σ H => cls = .ref C ∧ d = none ∧ tSuite X.K i v a D σ H) (Wout := fun _ _ _ _ => False) hs hf hN hi hln hc takesN
    (fun W pn xe tk po => by
      obtain ⟨t, h1, h2⟩ := hb (fun cls d H => ∀ σ : L2.St, σ.length = X.N.length → W cls d σ H) pn xe (fun pins σ H s e s' I cc => tk e s' (L2N.XE.of_call I (fun cls d H' h => h σ I.len) cc))
      exact pss_sem h1 h2)
    (fun a oe cls d pn hz hfl => ⟨fun pins s σ H D I h => by
      obtain ⟨h1, h2, h3⟩ := h
      subst h1 h2
      exact (hsu a oe pn hz hfl).run pins s σ H D I h3⟩)
  refine ⟨fun pins s σ H D I h => h0.run pins s σ H D I ?_⟩
  obtain ⟨B, F0, F, ρ, r, R, hr, po⟩ := h
  have hlen := I.len
  unfold Dn.sTry at hr
  split at hr
  · rename_i hno
    have R2 : Rp X.K H F F H σ ρ := rp_base R hno (Same.refl _) (Same.refl _) fun b o e => .inl e
    split at hr
    · rename_i c' hb'
      split at hr
      · rename_i hcc
        subst hcc
        cases hr
        refine ⟨H, F, F, ρ, _, R2, hb', fun H' s1 σ' hl' => ?_⟩
        refine ⟨true, by rw [hcl]; exact hex, fun _ a ha => ⟨hcl, rfl, ?_, ha, fun y H'' s2 hy => ?_⟩, fun q => Bool.noConfusion q⟩
        · have hi' : i < σ'.length := by
            rw [hl']
            exact (List.getElem?_eq_some_iff.mp hi).1
          rw [List.getElem?_set_self hi']
        · exact po y F H'' ((R.bh.trans s1).trans s2) R.ff ((R.fh.trans s1).trans s2) R.nb (hy F)
      · cases hr
    · rename_i d hb'
      cases hr
      exact ⟨H, F, F, ρ, _, R2, hb', fun y F' H' s1 s2 s3 nb q => po y F' H' (R.bh.trans s1) (R.ff.trans s2) s3 (nb_back R.bh R.nb nb) q⟩
    · rename_i ρ' hb'
      split at hr
      · rename_i hno'
        cases hr
        exact ⟨H, F, F, ρ, _, R2, hb', fun F' H' σ' R' => po F' H' σ' (rp_base R' hno' (R.bh.trans R'.bh) (R.ff.trans R'.ff) (nb_back R.bh R.nb R'.nb))⟩
      · cases hr
    · cases hr
  · cases hr
end Dw

set_option maxHeartbeats 4400000
/-! Dw11: what the laws' except suites say. -/
namespace Dw
open PySem PySem.Spec PyProof.Rows L2
def rS1 : R2 := fun x y H Q => ∃ z, x = V.str z ∧ y = V.int 1 ∧ Q (V.str z) H
theorem op_S1 {X : Cx} : OpR X (binaryOp .Mult) rS1 := by
  intro pins s σ H x y v u Q I rx ry h
  obtain ⟨z, rfl, rfl, q⟩ := h
  obtain ⟨t, rfl⟩ := rx
  obtain ⟨t2, rfl⟩ := ry
  refine P.mul_str (by decide) (fun _ h => absurd h (by simp)) (fun _ h => absurd h (by simp)) ?_
  rw [if_neg (by decide), if_pos (by simp)]
  exact ⟨.str z, H, I.tok _, ⟨t, rfl⟩, q⟩
def tIs (K : PySem.W.Frag) (C a : Addr) (i : Nat) (c : V) : TE := tCB (rIsE K C a) (tCons (tVar i) (tCons (tC c) tNil))
theorem is_go {K : PySem.W.Frag} {C a : Addr} {i : Nat} {c : V} {cv : Value} {b : Bool} {σ : L2.St} {H : Hp} {Q : VK} (hσ : σ[i]? = some (some (.ref a))) (hc : ∀ u, RelV c u → u = cv) (hk : PySem.W.kitOne K (.ref C) cv = some b) (q : Q (.bl b) H) : tIs K C a i c σ H Q :=
  ⟨_, hσ, c, cv, b, rfl, hc, hk, q⟩
/-- what the top says of the class that is caught, beside the others -/
structure XS (K : PySem.W.Frag) (C A1 A2 A3 A4 S : Addr) : Prop where
  k1 : PySem.W.kitOne K (.ref C) (.ref A1) = some false
  k2 : PySem.W.kitOne K (.ref C) (.ref A2) = some false
  k3 : PySem.W.kitOne K (.ref C) (.ref A3) = some false
  k4 : PySem.W.kitOne K (.ref C) (.ref A4) = some false
  kS : PySem.W.kitOne K (.ref C) (.ref S) = some true
  kV : PySem.W.kitOne K (.ref C) (.type "ValueError") = some true
def tSome (K : PySem.W.Frag) (C a A1 A2 A3 A4 : Addr) (i j : Nat) : TS := tAsg (tLst (tCons (tIs K C a i (.ref A1)) (tCons (tIs K C a i (.ref A2)) (tCons (tIs K C a i (.ref A3)) (tCons (tIs K C a i (.ref A4)) tNil))))) (gName j)
def tSay (K : PySem.W.Frag) (C a S : Addr) (i j : Nat) : TE := tAndV (tIs K C a i (.ref S)) (tAndV (tIs K C a i (.ty "ValueError")) (tNotV (tCB (rAny K) (tCons (tVar j) tNil))))
theorem some_go {K : PySem.W.Frag} {C a A1 A2 A3 A4 S : Addr} {i j : Nat} (T : XS K C A1 A2 A3 A4 S) (hij : i ≠ j) {σ : L2.St} {H : Hp} {D : Ends} (hj : j < σ.length) (hσ : σ[i]? = some (some (.ref a)))
    (h : ∀ p, H p = none → D.nx (σ.set j (some (.ref p))) (upd H p (.lst ([false, false, false, false].map V.bl)))) : tSome K C a A1 A2 A3 A4 i j D σ H := by
  refine is_go hσ (fun u r => r) T.k1 (is_go hσ (fun u r => r) T.k2 (is_go hσ (fun u r => r) T.k3 (is_go hσ (fun u r => r) T.k4 ?_)))
  exact ⟨by show 4 ≤ sizeLine; decide, fun p hp => h p hp⟩
theorem say_go {K : PySem.W.Frag} {C a A1 A2 A3 A4 S : Addr} {i j : Nat} (T : XS K C A1 A2 A3 A4 S) (hij : i ≠ j) {σ : L2.St} {H : Hp} {Q : VK} {p : Addr} (hj : j < σ.length) (hσ : σ[i]? = some (some (.ref a)))
    (h : Q (.bl true) (upd H p (.lst ([false, false, false, false].map V.bl)))) : tSay K C a S i j (σ.set j (some (.ref p))) (upd H p (.lst ([false, false, false, false].map V.bl))) Q := by
  have h1 : (σ.set j (some (V.ref p)))[i]? = some (some (.ref a)) := by
    rw [List.getElem?_set_ne (Ne.symm hij)]
    exact hσ
  have h2 : (σ.set j (some (V.ref p)))[j]? = some (some (.ref p)) := List.getElem?_set_self hj
  refine is_go h1 (fun u r => r) T.kS ⟨true, rfl, ?_⟩
  rw [if_pos rfl]
  refine is_go h1 (fun u r => r) T.kV ⟨true, rfl, ?_⟩
  rw [if_pos rfl]
  exact ⟨_, h2, p, [false, false, false, false], rfl, SqL.of upd_same, false, rfl, h⟩
/-- .. and gives True -/
theorem pss_suiteB {X : Cx} {a : Addr} {oe : Obj} {pn : List (Addr × Obj)} {C A1 A2 A3 A4 S : Addr} {i j : Nat} {st : List Stmt} (T : XS X.K C A1 A2 A3 A4 S) (hij : i ≠ j) (hj : j < X.N.length)
    (h : PSs (X.suite a ((a, oe) :: pn)) st (tSeq (tSome X.K C a A1 A2 A3 A4 i j) (tRet (tSay X.K C a S i j)))) : PSs (X.suite a ((a, oe) :: pn)) st (tSuite X.K i (.bool true) a) :=
  ⟨fun pins s σ H D I ⟨h1, h2, h3⟩ => h.run pins s σ H D I (by
    have hl : j < σ.length := by rw [I.len]; exact hj
    refine some_go (S := S) T hij hl h1 fun p hp => say_go T hij hl h1 (h3 _ _ (same_upd hp) fun F => .bl true))⟩
theorem pss_suiteN {X : Cx} {a : Addr} {oe : Obj} {pn : List (Addr × Obj)} {C A1 A2 A3 A4 S : Addr} {i j : Nat} {st : List Stmt} {z : Str} (T : XS X.K C A1 A2 A3 A4 S) (hij : i ≠ j) (hj : j < X.N.length)
    (h : PSs (X.suite a ((a, oe) :: pn)) st (tSeq (tSome X.K C a A1 A2 A3 A4 i j) (tRet (tOp rS1 (tC (.str z)) (tCB (rDC1 X.K Dn.intD) (tCons (tSay X.K C a S i j) tNil)))))) : PSs (X.suite a ((a, oe) :: pn)) st (tSuite X.K i (.str z) a) :=
  ⟨fun pins s σ H D I ⟨h1, h2, h3⟩ => h.run pins s σ H D I (by
    have hl : j < σ.length := by rw [I.len]; exact hj
    refine some_go (S := S) T hij hl h1 fun p hp => say_go T hij hl h1 ?_
    refine ⟨_, rfl, fun _ => none, .bool true, .int 1, (fun _ _ e => by cases e), Or.inl (.bl true), rfl, fun v F' H' x q => ?_⟩
    cases q
    exact ⟨z, rfl, rfl, h3 _ _ ((same_upd hp).trans x.h) fun F => .str z⟩)⟩
theorem hot_of {X : Cx} {a : Addr} {oe : Obj} {pn : List (Addr × Obj)} {cls : Value} {d : Option Addr} (hz : L2N.Zn cls d oe) (hf : ∃ vs, oe.data = .fields vs) : L2H.HotC (X.suite a ((a, oe) :: pn)) := by
  obtain ⟨vs, hd⟩ := hf
  exact ⟨(a, oe), ⟨rfl, vs, hd, hz.2.2 vs hd⟩, List.mem_cons_self⟩
theorem rds_ex {K : PySem.W.Frag} {cl : Str → Value} {E : XK} {t : TE} {f : Dn.EF} (h : Rd K cl E t f) : RdS K cl E (tDrop t) (Dn.sEx f) := fun B F0 F H σ ρ R r e D p => by
  rcases bS_cases e with ⟨a, e1, e2⟩ | ⟨c, e1, rfl⟩
  · refine h B F0 F H σ ρ R _ e1 _ (fun d ed v F1 H1 x1 w => ?_) (fun c ec => by cases ec)
    cases ed
    cases e2
    exact p F1 H1 σ (R.ext x1)
  · exact h B F0 F H σ ρ R _ e1 _ (fun d ed => by cases ed) (fun c' ec F' H' x => by cases ec; exact p H' (R.bh.trans x.h))
section
variable {K : PySem.W.Frag} {C A : Addr}
theorem kit_no (ne : (Value.ref C == Value.ref A) = false) (h1 : PySem.W.isClsIn K A = true) (h2 : PySem.W.typeIn K (.ref A) = some (.type "type")) (h3 : PySem.W.subIn K (.ref C) (.ref A) = some false) : PySem.W.kitOne K (.ref C) (.ref A) = some false := by
  have h1' : (PySem.W.clsIn K A).isSome = true := h1
  have e2 : ((PySem.W.clsIn K A).isSome && PySem.W.typeIn K (.ref A) == some (.type "type")) = true := by rw [h1', h2] <;> rfl
  show (if (Value.ref C == Value.ref A) = true then some true else if ((PySem.W.clsIn K A).isSome && PySem.W.typeIn K (.ref A) == some (.type "type")) = true then PySem.W.subIn K (.ref C) (.ref A) else none) = _
  rw [ne, if_neg Bool.false_ne_true, if_pos e2]
  exact h3
theorem kit_yes (h1 : PySem.W.isClsIn K A = true) (h2 : PySem.W.typeIn K (.ref A) = some (.type "type")) (h3 : PySem.W.subIn K (.ref C) (.ref A) = some true) : PySem.W.kitOne K (.ref C) (.ref A) = some true := by
  have h1' : (PySem.W.clsIn K A).isSome = true := h1
  have e2 : ((PySem.W.clsIn K A).isSome && PySem.W.typeIn K (.ref A) == some (.type "type")) = true := by rw [h1', h2] <;> rfl
  show (if (Value.ref C == Value.ref A) = true then some true else if ((PySem.W.clsIn K A).isSome && PySem.W.typeIn K (.ref A) == some (.type "type")) = true then PySem.W.subIn K (.ref C) (.ref A) else none) = _
  split
  · rfl
  · first
    | exact h3
    | (rw [if_pos e2]; exact h3)
theorem kit_val (h : PySem.W.subIn K (.ref C) (.type "ValueError") = some true) : PySem.W.kitOne K (.ref C) (.type "ValueError") = some true := by
  show (if (Value.ref C == Value.type "ValueError") = true then some true else if PySem.W.kitMeta "ValueError" = true then PySem.W.subIn K (.ref C) (.type "ValueError") else none) = _
  rw [show (Value.ref C == Value.type "ValueError") = false from rfl, if_neg Bool.false_ne_true, if_pos (by decide +kernel)]
  exact h
theorem exm_own (h1 : PySem.W.subIn K (.ref C) (.type "BaseException") = some true) (h2 : PySem.W.isClsIn K C = true) (h3 : PySem.W.typeIn K (.ref C) = some (.type "type")) (h4 : PySem.W.subIn K (.ref C) (.ref C) = some true) : PySem.W.exmOne K (.ref C) (.ref C) = some true := by
  have h2' : (PySem.W.clsIn K C).isSome = true := h2
  have e2 : ((PySem.W.clsIn K C).isSome && PySem.W.typeIn K (.ref C) == some (.type "type")) = true := by rw [h2', h3] <;> rfl
  show (if (PySem.W.subIn K (.ref C) (.type "BaseException") == some true) = true then (if ((PySem.W.clsIn K C).isSome && PySem.W.typeIn K (.ref C) == some (.type "type")) = true then PySem.W.subIn K (.ref C) (.ref C) else none) else none) = some true
  rw [h1, if_pos (by decide), if_pos e2]
  exact h4
end
end Dw

set_option maxHeartbeats 4400000
/-! Dw18: list + list, join, except clauses over a base class, without a name. -/
namespace Dw
open PySem PySem.Spec PyProof.Rows L2
section
variable {K : PySem.W.Frag} {cl : Str → Value} {E : XK}
theorem rdn_cat {ta tb : TE} {fa fb : Dn.EF} (ha : RdW K cl E ta fa) (hb : RdW K cl E tb fb) : RdN K cl E (tOp (rCatS K) ta tb) (Dn.e2 Dn.catD fa fb) := fun B F0 F H σ ρ R r e Q ok ex => by
  rcases bnd_cases e with ⟨a, e1, e2⟩ | ⟨c, e1, rfl⟩
  · refine ha B F0 F H σ ρ R _ e1 _ (fun d ed v F1 H1 x1 w1 => ?_) (fun c ec => by cases ec)
    cases ed
    rcases bnd_cases e2 with ⟨b, e3, e4⟩ | ⟨c, e3, rfl⟩
    · refine hb B F0 F1 H1 σ ρ (R.ext x1) _ e3 _ (fun d2 ed2 v2 F2 H2 x2 w2 => ?_) (fun c ec => by cases ec)
      cases ed2
      obtain ⟨z, ez, rfl⟩ := lft_cases e4
      unfold Dn.catD at ez
      split at ez
      · rename_i xs ys
        split at ez
        · rename_i hc
          cases ez
          obtain ⟨p, vs, rfl, s1, q1⟩ := (w1.mono x2).list x2.s
          obtain ⟨p2, vs2, rfl, s2, q2⟩ := w2.list x2.s
          have l1 := DpAll_len q1
          have l2 := DpAll_len q2
          refine ⟨p, p2, vs, vs2, rfl, rfl, s1, s2, Nat.le_of_lt (lineM (by omega)), fun t ht => ?_⟩
          exact ok _ rfl t _ _ F2 _ ((x1.trans x2).trans (Ext.freshO x2.s _ ht)) rfl ((x1.trans x2).h.free ht) (x2.s.free ht) upd_same (DpAll_app q1 q2)
        · cases ez
      · cases ez
    · exact hb B F0 F1 H1 σ ρ (R.ext x1) _ e3 _ (fun d2 ed2 => by cases ed2) (fun c' ec F' H' x => by cases ec; exact ex c rfl F' H' (x1.trans x))
  · exact ha B F0 F H σ ρ R _ e1 _ (fun d ed => by cases ed) (fun c' ec F' H' x => by cases ec; exact ex c rfl F' H' x)
theorem DpAll_strs {F : Hp} : ∀ {vs : List V} {ds : List PyData} {ns : List Str}, DpAll K F vs ds → Dn.strsOf ds = some ns → vs = ns.map V.str
  | _, _, _, .nil, e => by
    have e' := Option.some.inj e
    subst e'
    rfl
  | _, _, ns, .cons h a, e => by
    cases h with
    | str i =>
      unfold Dn.strsOf at e
      obtain ⟨ms, hm, e'⟩ := Option.map_eq_some_iff.mp e
      subst e'
      rw [DpAll_strs a hm]
      rfl
    | non => cases e
    | int b => cases e
    | bl x => cases e
    | lst _ _ => cases e
    | tup _ _ => cases e
def rJoin (K : PySem.W.Frag) : V → List V → Hp → VK → Prop := fun x xs H Q => ∃ a p, ∃ ys : List Str, x = .str a ∧ xs = [.ref p] ∧ (SqL K H p (ys.map V.str) ∨ L2.SqT K H p (ys.map V.str)) ∧
    (ys.map (·.length)).sum + ys.length * a.length ≤ 16777216 ∧ Q (.str (Txt.join a ys)) H
theorem rd_join {ta tb : TE} {fa fb : Dn.EF} (ha : RdW K cl E ta fa) (hb : RdW K cl E tb fb) : Rd K cl E (tM1 (rJoin K) ta tb) (Dn.eJoin2 fa fb) := fun B F0 F H σ ρ R r e Q ok ex => by
  rcases bnd_cases e with ⟨a, e1, e2⟩ | ⟨c, e1, rfl⟩
  · refine ha B F0 F H σ ρ R _ e1 _ (fun d ed v F1 H1 x1 w1 => ?_) (fun c ec => by cases ec)
    cases ed
    split at e2
    · rename_i z
      have hv := w1.str
      subst hv
      refine ⟨⟨z, rfl⟩, ?_⟩
      rcases bnd_cases e2 with ⟨b, e3, e4⟩ | ⟨c, e3, rfl⟩
      · refine hb B F0 F1 H1 σ ρ (R.ext x1) _ e3 _ (fun d2 ed2 v2 F2 H2 x2 w2 => ?_) (fun c ec => by cases ec)
        cases ed2
        obtain ⟨y, ez, rfl⟩ := lft_cases e4
        obtain ⟨xs, h1, h2⟩ := Option.bind_eq_some_iff.mp ez
        obtain ⟨ys, h3, h4⟩ := Option.bind_eq_some_iff.mp h2
        split at h4
        · rename_i hc
          cases h4
          cases b with
          | list bs =>
            cases h1
            obtain ⟨p, vs, rfl, s1, q1⟩ := w2.list x2.s
            have := DpAll_strs q1 h3
            subst this
            exact ⟨z, p, ys, rfl, rfl, .inl s1, Nat.le_trans hc (by decide), ok _ rfl _ F2 H2 (x1.trans x2) (.str _)⟩
          | none => cases h1
          | bool _ => cases h1
          | int _ => cases h1
          | str _ => cases h1
          | tuple _ => cases h1
          | dict _ => cases h1
        · cases h4
      · exact hb B F0 F1 H1 σ ρ (R.ext x1) _ e3 _ (fun d2 ed2 => by cases ed2) (fun c' ec F' H' x => by cases ec; exact ex c rfl F' H' (x1.trans x))
    · cases e2
  · exact ha B F0 F H σ ρ R _ e1 _ (fun d ed => by cases ed) (fun c' ec F' H' x => by cases ec; exact ex c rfl F' H' x)
end
section
variable {K : PySem.W.Frag} {C A : Addr}
theorem exm_sub (h1 : PySem.W.subIn K (.ref A) (.type "BaseException") = some true) (h2 : PySem.W.isClsIn K A = true) (h3 : PySem.W.typeIn K (.ref A) = some (.type "type")) (h4 : PySem.W.subIn K (.ref C) (.ref A) = some true) : PySem.W.exmOne K (.ref C) (.ref A) = some true := by
  unfold PySem.W.exmOne
  rw [h1, if_pos (by decide)]
  have h2' : (PySem.W.clsIn K A).isSome = true := h2
  have e2 : ((PySem.W.clsIn K A).isSome && PySem.W.typeIn K (.ref A) == some (.type "type")) = true := by rw [h2', h3] <;> rfl
  first
  | (show (if ((PySem.W.clsIn K A).isSome && PySem.W.typeIn K (.ref A) == some (.type "type")) = true then PySem.W.subIn K (.ref C) (.ref A) else none) = some true
     rw [if_pos e2]
     exact h4)
  | (unfold PySem.W.kitCls
     rw [if_pos e2]
     exact h4)
end
/-! ### try: a handler of a base class -/
theorem ps_tryG {X : Cx} {cl : Str → Value} {E' : XK} {x n c : Str} {C HC : Addr} {i : Nat} {body suite : List Stmt} {b₀ : Stmt} {np pos pos' : Pos} {b : Dn.SF} {v : PyData} (hs : X.stack = X.env :: X.outer) (hf : X.env.frame = some X.env.locals) (hN : X.N.Nodup) (hi : X.N[i]? = some n) (hln : X.env.kindOf n = some .local)
    (hc : Names X x (.ref HC)) (hcl : cl c = .ref C) (hex : PySem.W.exmOne X.K (.ref C) (.ref HC) = some true)
    (hb : ∀ (E : XK) (pn : List (Addr × Obj)) (xe : Value → Shared → Prop), Passes (L2N.CX X.prog X.w) (X.tr pn xe) E → ∃ t, PSs (X.tr pn xe) body t ∧ RdS X.K cl E t b)
    (hsu : ∀ (a : Addr) (oe : Obj) (pn : List (Addr × Obj)), L2N.Zn (.ref C) none oe → (∃ vs, oe.data = .fields vs) → PSs (X.suite a ((a, oe) :: pn)) (b₀ :: suite) (tSuite X.K i v a)) :
    PS X (.Try body [.ExceptHandler (some (.Name x np)) (some n) (b₀ :: suite) pos'] [] [] pos) (tSem X.K cl E' (Dn.sTry b c v)) := by
  have h0 := L2N.ps_try_as (X := X) (x := x) (n := n) (c := .ref HC) (i := i) (body := body) (suite := suite) (b₀ := b₀) (np := np) (pos := pos) (pos' := pos')
    (tb := fun W => tSem X.K cl (fun cls d H => ∀ σ : L2.St, σ.length = X.N.length → W cls d σ H) b) (ts := fun a cls d => fun D σ H => cls = .ref C ∧ d = none ∧ tSuite X.K i v a D σ H) (Wout := fun _ _ _ _ => False) hs hf hN hi hln hc takesN
    (fun W pn xe tk po => by
      obtain ⟨t, h1, h2⟩ := hb (fun cls d H => ∀ σ : L2.St, σ.length = X.N.length → W cls d σ H) pn xe (fun pins σ H s e s' I cc => tk e s' (L2N.XE.of_call I (fun cls d H' h => h σ I.len) cc))
      exact pss_sem h1 h2)
    (fun a oe cls d pn hz hfl => ⟨fun pins s σ H D I h => by
      obtain ⟨h1, h2, h3⟩ := h
      subst h1 h2
      exact (hsu a oe pn hz hfl).run pins s σ H D I h3⟩)
  refine ⟨fun pins s σ H D I h => h0.run pins s σ H D I ?_⟩
  obtain ⟨B, F0, F, ρ, r, R, hr, po⟩ := h
  have hlen := I.len
  unfold Dn.sTry at hr
  split at hr
  · rename_i hno
    have R2 : Rp X.K H F F H σ ρ := rp_base R hno (Same.refl _) (Same.refl _) fun b o e => .inl e
    split at hr
    · rename_i c' hb'
      split at hr
      · rename_i hcc
        subst hcc
        cases hr
        refine ⟨H, F, F, ρ, _, R2, hb', fun H' s1 σ' hl' => ?_⟩
        refine ⟨true, by rw [hcl]; exact hex, fun _ a ha => ⟨hcl, rfl, ?_, ha, fun y H'' s2 hy => ?_⟩, fun q => Bool.noConfusion q⟩
        · have hi' : i < σ'.length := by
            rw [hl']
            exact (List.getElem?_eq_some_iff.mp hi).1
          rw [List.getElem?_set_self hi']
        · exact po y F H'' ((R.bh.trans s1).trans s2) R.ff ((R.fh.trans s1).trans s2) R.nb (hy F)
      · cases hr
    · rename_i d hb'
      cases hr
      exact ⟨H, F, F, ρ, _, R2, hb', fun y F' H' s1 s2 s3 nb q => po y F' H' (R.bh.trans s1) (R.ff.trans s2) s3 (nb_back R.bh R.nb nb) q⟩
    · rename_i ρ' hb'
      split at hr
      · rename_i hno'
        cases hr
        exact ⟨H, F, F, ρ, _, R2, hb', fun F' H' σ' R' => po F' H' σ' (rp_base R' hno' (R.bh.trans R'.bh) (R.ff.trans R'.ff) (nb_back R.bh R.nb R'.nb))⟩
      · cases hr
    · cases hr
  · cases hr
/-- the suite of a clause without a name -/
def tSuiteU (K : PySem.W.Frag) (v : PyData) : TS := fun D σ H => ∀ (x : V) (H' : Hp), Same H H' → (∀ F, Dp K F x v) → D.rt x H'
theorem pss_suiteU {X : Cx} {st : List Stmt} {i : Bool} (h : PSs X st (tRet (tC (.bl i)))) : PSs X st (tSuiteU X.K (.bool i)) :=
  ⟨fun pins s σ H D I q => h.run pins s σ H D I (q _ _ (Same.refl _) fun F => .bl i)⟩
theorem ps_tryU {X : Cx} {cl : Str → Value} {E' : XK} {x c : Str} {C HC : Addr} {body suite : List Stmt} {b₀ : Stmt} {np pos pos' : Pos} {b : Dn.SF} {v : PyData} (hs : X.stack = X.env :: X.outer) (hf : X.env.frame = some X.env.locals)
    (hc : Names X x (.ref HC)) (hcl : cl c = .ref C) (hex : PySem.W.exmOne X.K (.ref C) (.ref HC) = some true)
    (hb : ∀ (E : XK) (pn : List (Addr × Obj)) (xe : Value → Shared → Prop), Passes (L2N.CX X.prog X.w) (X.tr pn xe) E → ∃ t, PSs (X.tr pn xe) body t ∧ RdS X.K cl E t b)
    (hsu : ∀ (a : Addr) (oe : Obj) (pn : List (Addr × Obj)), L2N.Zn (.ref C) none oe → (∃ vs, oe.data = .fields vs) → PSs (X.suite a ((a, oe) :: pn)) (b₀ :: suite) (tSuiteU X.K v)) :
    PS X (.Try body [.ExceptHandler (some (.Name x np)) none (b₀ :: suite) pos'] [] [] pos) (tSem X.K cl E' (Dn.sTry b c v)) := by
  have h0 := L2N.ps_try_many (X := X) (body := body) (pos := pos)
    (tb := fun W => tSem X.K cl (fun cls d H => ∀ σ : L2.St, σ.length = X.N.length → W cls d σ H) b) (Wout := fun _ _ _ _ => False) hs hf takesN
    (fun W pn xe tk po => by
      obtain ⟨t, h1, h2⟩ := hb (fun cls d H => ∀ σ : L2.St, σ.length = X.N.length → W cls d σ H) pn xe (fun pins σ H s e s' I cc => tk e s' (L2N.XE.of_call I (fun cls d H' h => h σ I.len) cc))
      exact pss_sem h1 h2)
    (L2N.HdsOk.cons (x := x) (np := np) (pos' := pos') (b₀ := b₀) (suite := suite) (ts := fun a cls d => fun D σ H => cls = .ref C ∧ d = none ∧ tSuiteU X.K v D σ H) hc
      (fun a oe cls d pn hz hfl => ⟨fun pins s σ H D I h => by
        obtain ⟨h1, h2, h3⟩ := h
        subst h1 h2
        exact (hsu a oe pn hz hfl).run pins s σ H D I h3⟩) .nil)
  refine ⟨fun pins s σ H D I h => h0.run pins s σ H D I ?_⟩
  obtain ⟨B, F0, F, ρ, r, R, hr, po⟩ := h
  have hlen := I.len
  unfold Dn.sTry at hr
  split at hr
  · rename_i hno
    have R2 : Rp X.K H F F H σ ρ := rp_base R hno (Same.refl _) (Same.refl _) fun b o e => .inl e
    split at hr
    · rename_i c' hb'
      split at hr
      · rename_i hcc
        subst hcc
        cases hr
        refine ⟨H, F, F, ρ, _, R2, hb', fun H' s1 σ' hl' => ?_⟩
        refine ⟨true, by rw [hcl]; exact hex, fun _ a ha => ⟨hcl, rfl, fun y H'' s2 hy => ?_⟩, fun q => Bool.noConfusion q⟩
        exact po y F H'' ((R.bh.trans s1).trans s2) R.ff ((R.fh.trans s1).trans s2) R.nb (hy F)
      · cases hr
    · rename_i d hb'
      cases hr
      exact ⟨H, F, F, ρ, _, R2, hb', fun y F' H' s1 s2 s3 nb q => po y F' H' (R.bh.trans s1) (R.ff.trans s2) s3 (nb_back R.bh R.nb nb) q⟩
    · rename_i ρ' hb'
      split at hr
      · rename_i hno'
        cases hr
        exact ⟨H, F, F, ρ, _, R2, hb', fun F' H' σ' R' => po F' H' σ' (rp_base R' hno' (R.bh.trans R'.bh) (R.ff.trans R'.ff) (nb_back R.bh R.nb R'.nb))⟩
      · cases hr
    · cases hr
  · cases hr
end Dw

set_option maxHeartbeats 4400000
/-! Dw19: a list comprehension whose element may let an exception out (over the library's comprehension_at). -/
namespace Dw
open PySem PySem.Spec PyProof.Rows L2
/-! ### heaps -/
/-- h, cut down to what B holds and to the frames fs -/
theorem ground (fs : List Addr) {B h : Heap} (st : B.StaysIn h) : ∃ G : Heap, B.StaysIn G ∧ G.StaysIn h ∧ (∀ b ∈ fs, G.get? b = h.get? b) ∧ ∀ b o, G.get? b = some o → b ∉ fs → B.get? b = some o := by
  obtain ⟨G, on, off⟩ := restrict h fun b => decide (b ∈ fs) || (B.get? b).isSome
  have held : ∀ b o, G.get? b = some o → h.get? b = some o ∧ (b ∉ fs → B.get? b = some o) := fun b o e => by
    by_cases hb : b ∈ fs
    · exact ⟨(on b (by simp [hb])).symm.trans e, fun n => absurd hb n⟩
    · cases q : B.get? b with
      | none => exact absurd ((off b (by simp [hb, q])).symm.trans e) nofun
      | some u =>
        have e1 := (on b (by simp [q])).symm.trans e
        exact ⟨e1, fun _ => (st b u q).symm.trans e1⟩
  exact ⟨G, fun b o e => (on b (by simp [e])).trans (st b o e), fun b o e => (held b o e).1, fun b hb => on b (by simp [hb]), fun b o e => (held b o e).2⟩
theorem hidden {h : Heap} {C b : Addr} {o : Obj} : (PySem.W.hideAll h [C]).get? b = some o ↔ h.get? b = some o ∧ b ≠ C :=
  ⟨fun e => ⟨PySem.W.of_hideAll _ e, fun z => by rw [PySem.W.hideAll_none [C] (by simp [z])] at e; cases e⟩, fun ⟨e, n⟩ => PySem.W.hideAll_get _ e (by simpa using n)⟩
theorem hidden_none {h : Heap} {C b : Addr} (e : h.get? b = none) : (PySem.W.hideAll h [C]).get? b = none := Option.eq_none_iff_forall_ne_some.mpr fun o q => by
  have z := (hidden.mp q).1
  rw [e] at z
  cases z
/-- the callers' frames, C hidden and changed -/
theorem frames_hide {g h B : Heap} {C : Addr} {oC : Obj} (sb : ∀ b, b ≠ C → h.get? b = g.get? b) (hC : B.get? C = some oC) : ∀ {l : List Env}, g.FunFrames B l → h.FunFrames (PySem.W.hideAll B [C]) l
  | [], _ => trivial
  | _ :: _, ⟨k, ⟨L, o, ef, nB, at_, hd⟩, rest⟩ => ⟨k, ⟨L, o, ef, hidden_none nB, (sb L fun z => by rw [z, hC] at nB; cases nB).trans at_, hd⟩, frames_hide sb hC rest⟩
/-! ### the block of a comprehension, with a wish about exceptions -/
abbrev blkE (X : Cx) (s : Shared) (H : Hp) (scope : Scope) (cenv : Env) (fp : List Addr) (xe : Value → Shared → Prop) : Cx := { X.blk s H scope cenv fp with xe := xe }
section
variable {X : Cx} {pins pins' : List (Addr × Obj)} {σ σ' : L2.St} {H H₀ : Hp} {s s₀ sI s' : Shared} {scope : Scope} {ce : Env} {fp : List Addr} {xe : Value → Shared → Prop}
theorem okE (ok : (X.blk s₀ H₀ scope ce fp).Ok) : (blkE X s₀ H₀ scope ce fp xe).Ok := by
  cases ok
  constructor <;> assumption
theorem okE' (ok : (blkE X s₀ H₀ scope ce fp xe).Ok) : (X.blk s₀ H₀ scope ce fp).Ok := by
  cases ok
  constructor <;> assumption
theorem toE (xe : Value → Shared → Prop) (I : Inv (X.blk s₀ H₀ scope ce fp) pins σ H s) : Inv (blkE X s₀ H₀ scope ce fp xe) pins σ H s :=
  ⟨okE I.ok, I.os, I.bare, I.base, I.loc, I.cell, I.free, I.freeC, I.pin, I.hok, I.len⟩
theorem ofE (I : Inv (blkE X s₀ H₀ scope ce fp xe) pins σ H s) : Inv (X.blk s₀ H₀ scope ce fp) pins σ H s :=
  ⟨okE' I.ok, I.os, I.bare, I.base, I.loc, I.cell, I.free, I.freeC, I.pin, I.hok, I.len⟩
/-- back from the block's state to the def's -/
theorem blk_back (I : Inv X pins σ H₀ s₀) (f : ∀ b ∈ fp, FpOk X pins H₀ b) (J : Inv (X.blk s₀ H₀ scope ce fp) pins' σ' H s) : Inv X pins σ H s :=
  I.call' J.os J.base J.hok J.bare fun b hb => let ⟨_, nL, _, above, ncell, npin⟩ := f b hb; ⟨above, nL, ncell, npin⟩
/-- the names' dict of the block -/
theorem blk_names {cl : List (Str × Addr)} (I : Inv X pins σ H₀ s₀) (J : Inv (X.blk s₀ H₀ scope (compEnvC scope cl s₀.heap.objs.size X.env) fp) pins' σ' H s) : FpOk X pins H s₀.heap.objs.size ∧ ∃ m, s.heap.Ns s₀.heap.objs.size m :=
  ⟨I.fpOk (Nat.le_refl _) J.free, let ⟨m, hn, _⟩ := J.loc; ⟨m, hn⟩⟩
/-- the block's dict let go -/
theorem let_go {C : Addr} {h1 : Heap} (I : Inv X pins σ H s) (f : FpOk X pins H C) (sb : Heap.SameBut C s.heap h1) : Inv X pins σ H { s with heap := h1 } :=
  I.turnedL (t' := s.toks) (ch := [C]) (fun b o n e => (sb.2 b (by simpa using n)).trans e) fun b hb => List.mem_singleton.mp hb ▸ f
/-! ### i turns later -/
structure InBlk (X : Cx) (s₀ : Shared) (H₀ : Hp) (scope : Scope) (ce : Env) (fp : List Addr) (σ : L2.St) (tn : Nat → Heap → Prop) (i : Nat) (H : Hp) (s : Shared) : Prop where
  inv : Inv (X.blk s₀ H₀ scope ce fp) [] σ H s
  itr : tn i s.heap
  free : ∀ b ∈ fp, H b = none
theorem InBlk.fpOk {tn : Nat → Heap → Prop} {i : Nat} (B : InBlk X s₀ H₀ scope ce fp σ tn i H s) : ∀ b ∈ fp, FpOk (X.blk s₀ H₀ scope ce fp) [] H b := fun b hb =>
  have ⟨nL, ncell⟩ := B.inv.ok.exf b hb
  ⟨B.free b hb, nL, B.inv.ok.exfs b hb, .inl hb, ncell, fun p hp => nomatch (show p ∈ ([] : List (Addr × Obj)) from hp)⟩
/-- the turn's own names are forgotten behind it; the iterator's objects were pinned meanwhile -/
theorem InBlk.behind {P : Program} {w : World} {K : PySem.W.Frag} {tg : Expr} {J : It} {it : Addr} {tn : Nat → Heap → Prop} {i : Nat} {vs : List Nat} {σ2 : L2.St} {H1 : Hp} {s1 : Shared} (T : Turn P w K tg J fp it tn) (B : InBlk X s₀ H₀ scope ce fp (wipe σ vs) tn i H1 s1)
    (I : Inv (X.blk s₀ H₀ scope ce fp) ([] ++ pinsAt fp s1.heap) σ2 H s) (hw : wipe σ2 vs = wipe σ vs) : InBlk X s₀ H₀ scope ce fp (wipe σ vs) tn i H s :=
  have still : ∀ b ∈ fp, ∀ o, s1.heap.get? b = some o → s.heap.get? b = some o ∧ H b = none := fun b hb o e =>
    have p := I.pin (b, o) (List.mem_append_right _ (mem_pinsAt hb e))
    ⟨p.1, p.2.1⟩
  { inv := hw ▸ (I.unpinned (pins := [])).weak (wipe_length σ2 vs) fun _ _ e => (wipe_some e).1
    itr := T.keep i _ _ B.itr fun b hb o e => (still b hb o e).1
    free := fun b hb => let ⟨o, e, _⟩ := T.obj i _ B.itr b hb; (still b hb o e).2 }
/-- the block begins: the new list at D, the block's names -/
theorem block_made {tg elt iter : Expr} {ifs : List Expr} {pos : Pos} {own : List (Str × Nat)} {J : It} {it : Addr} {tn : Nat → Heap → Prop} {Q : Value → Shared → Prop} (hN : X.N.Nodup) (ok : BlkOk X.N X.env.scope scope own)
    (I : Inv X pins σ H s) (T : Turn X.prog X.w X.K tg J fp it tn) (t0 : tn 0 s.heap) (f : ∀ b ∈ fp, FpOk X pins H b)
    (go : ∀ (s₀ s1 : Shared) (D : Addr) (cl : List (Str × Addr)), H D = none → Inv X pins σ (upd H D (.lst [])) s₀ → (∀ b ∈ fp, FpOk X pins (upd H D (.lst [])) b) →
      InBlk X s₀ (upd H D (.lst [])) scope (compEnvC scope cl s₀.heap.objs.size X.env) fp (wipe σ (own.map (·.2))) tn 0 (upd H D (.lst [])) s1 →
      codeAny (model X.prog X.w) X.A (.compStart (.ListComp elt [⟨tg, iter, ifs, 0⟩] scope pos) 0 (.ref it) (.ref D) (compEnvC scope cl s₀.heap.objs.size X.env)) (compEnds (model X.prog X.w) X.A X.xe none Q (.ref D) (compEnvC scope cl s₀.heap.objs.size X.env)) s1) :
    wpAny (model X.prog X.w) X.A (newList []) (fun acc s₃ => wpAny (model X.prog X.w) X.A (newFunctionEnv scope X.env.globals (cloFrom X.env.cells scope.names []) [] X.env.qual none .none (some X.env)) (fun cenv s₄ =>
      codeAny (model X.prog X.w) X.A (.compStart (.ListComp elt [⟨tg, iter, ifs, 0⟩] scope pos) 0 (.ref it) acc { cenv with scope := relabel scope X.env }) (compEnds (model X.prog X.w) X.A X.xe none Q acc { cenv with scope := relabel scope X.env }) s₄) X.xe s₃) X.xe s := by
  have fresh : H s.heap.objs.size = none := I.hok.fresh (Nat.le_refl _)
  have new : ∀ b ∈ fp, b < s.heap.objs.size := fun b hb => let ⟨_, e, _⟩ := T.obj _ _ t0 b hb; Heap.lt_size e
  have I₀ : Inv X pins σ (upd H s.heap.objs.size (.lst [])) { s with heap := s.heap.push { cls := .type "list", data := .seq #[] } } :=
    I.laid (t' := s.toks) (fun b o e => Heap.get?_push_of_some _ e) (Nat.le_refl _) ⟨Nat.zero_le _, [], 0, .nil, Heap.get?_push_size _ rfl⟩
  have f₀ : ∀ b ∈ fp, FpOk X pins (upd H s.heap.objs.size (.lst [])) b := fun b hb => ⟨(upd_ne (Nat.ne_of_lt (new b hb))).trans (f b hb).1, (f b hb).2⟩
  refine wpAny_newObj_type (newEnv_comp (go { s with heap := s.heap.push { cls := .type "list", data := .seq #[] } } _ _ _ fresh I₀ f₀ ⟨block_start I₀ ok hN fun b hb => ⟨f₀ b hb, ?_⟩, ?_, fun b hb => (f₀ b hb).1⟩)) (Nat.zero_le _)
  · rw [Heap.size_push]
    exact Nat.lt_succ_of_lt (new b hb)
  · exact T.keep 0 _ _ t0 fun b _ o e => pushCells_keeps _ _ _ _ (Heap.get?_push_of_some _ (Heap.get?_push_of_some _ e))
/-! ### exceptions -/
/-- a call's exception, in flight: the state without it -/
theorem call_fly {E : XK} (I : Inv X pins σ H s) {u : Value} (c : L2N.CX X.prog X.w X.stack H s E u s') :
    ∃ (a : Addr) (B : Heap) (sI : Shared) (H' : Hp) (cls : Value) (d : Option Addr), u = .ref a ∧ Inv X pins σ H' sI ∧ (∀ b o, sI.heap.get? b = some o → b ∉ frs X.stack → B.get? b = some o) ∧ sI.heap.UpToSlots s'.heap ∧
      HandSPX.FlyingZ B X.stack a (L2N.Zn cls d) s'.heap ∧ H' a = none ∧ s'.os = sI.os ∧ AllBare s'.gens ∧ E cls d H' := by
  obtain ⟨a, B, H1, cls, d, rfl, fly, held, ub, na, eos, bare, wish⟩ := c
  obtain ⟨G, BG, Gs, onF, offF⟩ := ground (frs X.stack) fly.1
  have onS : ∀ b o, s.heap.get? b = some o → b ∈ frs X.stack → ∃ sl, G.get? b = some { o with slots := sl } := fun b o e hb => let ⟨sl, e1⟩ := ub.slot b o e hb; ⟨sl, (onF b hb).trans e1⟩
  refine ⟨a, B, { s with heap := G, gens := s'.gens, drawn := s'.drawn, toks := s'.toks }, H1, cls, d, rfl, I.call (ch := []) ⟨fun b o e n nf _ => BG b o (ub.keep b o e n nf), fun b o e _ hb _ => onS b o e hb, fun b o e n _ => ub.free b o e n, fun b o e _ => ?_, ub.tups, ub.frzs, ub.tbls⟩ (held.kept BG) bare (fun _ z => nomatch z), offF, Heap.UpToSlots.of_keeps Gs, fly, na, eos, bare, wish⟩
  by_cases hb : b ∈ frs X.stack
  · exact let ⟨_, e1⟩ := onS b o e hb; ⟨_, e1⟩
  · exact let ⟨o1, e1⟩ := ub.there b o e hb; ⟨o1, BG b o1 e1⟩
/-- it leaves the block: noted, the block's dict let go, on in the def's frame -/
theorem leaves_blk {E : XK} {a : Addr} {B : Heap} {cls : Value} {d : Option Addr} {cl : List (Str × Addr)} (hst : X.stack = X.env :: X.outer) (hf : X.env.frame = some X.env.locals) (tk : L2N.Takes X (fun cls d _ H => E cls d H))
    (I : Inv X pins σ H₀ s₀) (f : ∀ b ∈ fp, FpOk X pins H₀ b) (J : Inv (X.blk s₀ H₀ scope (compEnvC scope cl s₀.heap.objs.size X.env) fp) pins' σ' H sI)
    (nb : ∀ b o, sI.heap.get? b = some o → b ∉ frs X.stack → B.get? b = some o) (up : sI.heap.UpToSlots s'.heap) (fly : HandSPX.FlyingZ B X.stack a (L2N.Zn cls d) s'.heap) (na : H a = none) (eos : s'.os = sI.os) (bare : AllBare s'.gens) (wish : E cls d H) :
    notedBy (model X.prog X.w) X.A (compEnvC scope cl s₀.heap.objs.size X.env) (CompFails (model X.prog X.w) X.A X.xe (compEnvC scope cl s₀.heap.objs.size X.env)) (.ref a) s' := by
  obtain ⟨fC, m, hn⟩ := blk_names I J
  have I1 := blk_back I f J
  generalize s₀.heap.objs.size = C at fC hn ⊢
  have nC : C ∉ frs X.stack := fun hm => (List.mem_cons.mp (I.stkSub C hm)).elim fC.2.1 fC.2.2.1
  have frC : X.A.frames = some (X.env :: X.outer) := I.ok.frames.trans (congrArg some hst)
  have oC : ∃ o, B.get? C = some o := let ⟨o, _, _, e, _⟩ := hn; ⟨o, nb C o e nC⟩
  obtain ⟨oC, eC⟩ := oC
  have off : ∀ b, B.get? b = none → b ≠ C := fun b e z => by rw [z, eC] at e; cases e
  rw [hst] at fly
  show wpAny (model X.prog X.w) X.A (noteFrame (.ref a) X.env) _ _ s'
  refine PXN.looks_onZ L2N.Zn.steady frC hf fly fun g held upg => ⟨m, (up.trans upg).ns hn, fun h' m' _ sb => ?_⟩
  obtain ⟨stay, naB, frames, oe, vs, T, oT, ts, ea, hz, hd, h1, nT, Ta, eT, dT, h3⟩ := held
  have stay' : (PySem.W.hideAll B [C]).StaysIn h' := fun b o e => let ⟨e1, n⟩ := hidden.mp e; (sb.2 b n).trans (stay b o e1)
  have ea' : h'.get? a = some oe := (sb.2 a (off a naB)).trans ea
  refine wpAny_bind (wpAny_field ea' hd h1 ?_)
  rw [show (Value.ref T == Value.none) = false from rfl, if_neg Bool.false_ne_true]
  have on : wpAny (model X.prog X.w) X.A (setFlight (.ref a) X.env.frame) (fun _ s4 => wpAny (model X.prog X.w) X.A (throw (.ref a) : Sem Value) (fun _ _ => False) X.xe s4) X.xe { s' with heap := h' } := by
    rw [hf]
    refine HandSPX.setFlight_anyZ stay' (frames_hide (fun b n => sb.2 b n) eC frames) ⟨oe, vs, T, oT, ts, ea', hz, hd, h1, hidden_none nT, Ta, (sb.2 T (off T nT)).trans eT, dT, h3⟩ fun h5 k1 k2 k3 k4 => wpAny_throw (tk _ _ ?_)
    have I5 : Inv X pins σ H { sI with heap := PySem.W.hideAll sI.heap [C] } := I1.turnedL (t' := sI.toks) (ch := [C]) (fun b o n e => PySem.W.hideAll_get _ e n) fun b hb => List.mem_singleton.mp hb ▸ fC
    refine ⟨a, PySem.W.hideAll B [C], _, pins, σ, H, cls, d, rfl, I5, fun b o e n => ?_, fun b o e nf => ?_, .inr (.inr (hst ▸ ⟨k1, hidden_none naB, k2, k3⟩)), na, eos, bare, wish⟩
    · exact let ⟨e1, z⟩ := hidden.mp e; hidden.mpr ⟨nb b o e1 n, z⟩
    · obtain ⟨e1, z⟩ := hidden.mp e
      obtain ⟨sl, e2⟩ := (up.trans upg) b o e1 nf
      exact k4 b { o with slots := sl } ((sb.2 b z).trans e2) nf
  first | exact wpAny_bind on | exact wpAny_bind (wpAny_pure (wpAny_bind on))
/-! ### the whole comprehension -/
theorem pe_lcE {E : XK} {elt tg iter : PySem.Expr} {ifs : List PySem.Expr} {own : List (Str × Nat)} {pos : Pos} {wi : TI} {g : TG} {tt : TT} {te : TE} (calm : X.calm = true) (hN : X.N.Nodup) (hi : PI X tg iter wi) (ok : BlkOk X.N X.env.scope scope own)
    (hst : X.stack = X.env :: X.outer) (hf : X.env.frame = some X.env.locals) (tk : L2N.Takes X (fun cls d _ H => E cls d H))
    (hg : ∀ (s : Shared) (H : Hp) (C : Addr) (cl : List (Str × Addr)) (fp : List Addr), PG (X.blk s H scope (compEnvC scope cl C X.env) fp) tg g)
    (ht : ∀ (s : Shared) (H : Hp) (C : Addr) (cl : List (Str × Addr)) (fp : List Addr), PTs (X.blk s H scope (compEnvC scope cl C X.env) fp) ifs tt)
    (he : ∀ (s : Shared) (H : Hp) (C : Addr) (cl : List (Str × Addr)) (fp : List Addr) (xe : Value → Shared → Prop), Passes (L2N.CX X.prog X.w) (blkE X s H scope (compEnvC scope cl C X.env) fp xe) E → PE (blkE X s H scope (compEnvC scope cl C X.env) fp xe) elt te)
    (hs : ∀ x, foldedSetIterable iter X.env x = pure x := by intro _; rfl) : PE X (.ListComp elt [⟨tg, iter, ifs, 0⟩] scope pos) (tLc wi g tt te (own.map (·.2))) where
  run := fun pins s σ H Q I h => by
    rw [eval_ListComp]
    refine comprehension_at (use := none) rfl hs (closure_ok fun y hy e => I.ok.has _ (ok.free y hy e)) ok.kind (fun y hy e => (ok.uniq y hy).trans (congrArg some e)) (thn (hi.run pins s σ H _ I h) fun _ _ got => thn got fun itv s2 got => ?_)
    obtain ⟨it, fp, tn, J, H2, rfl, I2, T, t2, f2, q⟩ := got
    refine block_made hN ok I2 T t2 f2 fun s₀ s4 D cl nD I₀ f₀ B4 => ?_
    obtain ⟨W, ⟨m0, w0⟩, turn⟩ := q D nD
    generalize upd H2 D (.lst []) = H₀ at I₀ f₀ B4 w0
    have lets : Passes (L2N.CX X.prog X.w) (blkE X s₀ H₀ scope (compEnvC scope cl s₀.heap.objs.size X.env) fp (notedBy (model X.prog X.w) X.A (compEnvC scope cl s₀.heap.objs.size X.env) (CompFails (model X.prog X.w) X.A X.xe (compEnvC scope cl s₀.heap.objs.size X.env)))) E := fun p1 σ1 H1 s1 e s5 I1 c => by
      obtain ⟨a, B, sI, H6, cls, d, rfl, I6, nb, up, fly, na, eos, bare, wish⟩ := call_fly I1 c
      exact leaves_blk hst hf tk I₀ f₀ (ofE I6) nb up fly na eos bare wish
    have loop : codeAny (model X.prog X.w) X.A (.compLoop (.ListComp elt [⟨tg, iter, ifs, 0⟩] scope pos) 0 (.ref it) (.ref D) (compEnvC scope cl s₀.heap.objs.size X.env)) (compEnds (model X.prog X.w) X.A X.xe none (EP X pins σ Q) (.ref D) (compEnvC scope cl s₀.heap.objs.size X.env)) s4 := by
      refine compLoop_any (fun n s => ∃ i H, InBlk X s₀ H₀ scope (compEnvC scope cl s₀.heap.objs.size X.env) fp (wipe σ (own.map (·.2))) tn i H s ∧ W i n H) (fun n s5 ⟨i, H5, B5, w5⟩ => ?_) m0 ⟨0, H₀, B4, w0⟩
      rcases turn i n H5 w5 with ⟨stop, fin⟩ | ⟨go, Nx, less, step⟩
      · refine thnF (T.done (X.blk s₀ H₀ scope (compEnvC scope cl s₀.heap.objs.size X.env) fp) rfl rfl rfl calm i [] s5 _ H5 (fun _ _ => False) B5.inv B5.fpOk B5.itr stop) fun r s6 ⟨er, I6⟩ => ?_
        subst er
        obtain ⟨fC, m, hn⟩ := blk_names I₀ I6
        exact ⟨m, hn, fun h1 sb => ⟨.ref D, H5, let_go (blk_back I₀ f₀ I6) fC sb, rfl, fin⟩⟩
      · refine thnF (T.item (X.blk s₀ H₀ scope (compEnvC scope cl s₀.heap.objs.size X.env) fp) rfl rfl rfl calm i [] s5 _ H5 (fun _ _ => False) B5.inv B5.fpOk B5.itr go) fun r s6 ⟨u, er, got⟩ => ?_
        subst er
        refine thnF got fun _ s7 ⟨x, H7, I7, rx, y7, t7, n7⟩ => ?_
        have B7 : InBlk X s₀ H₀ scope (compEnvC scope cl s₀.heap.objs.size X.env) fp (wipe σ (own.map (·.2))) tn (i + 1) H7 s7 := ⟨I7, t7, n7⟩
        refine thnF ((hg _ _ _ _ _).run _ s7 _ H7 x u _ (I7.pinned B7.fpOk (T.obj _ _ t7)) rx (step x H7 y7)) fun _ s8 ⟨σ8, H8, I8, same, q8⟩ => ?_
        refine thnF ((ht _ _ _ _ _).run _ s8 σ8 H8 _ I8 q8) fun yes s9 ⟨H9, I9, q9⟩ => ?_
        have next : ∀ {s1 : Shared} {H1 : Hp}, Inv (X.blk s₀ H₀ scope (compEnvC scope cl s₀.heap.objs.size X.env) fp) ([] ++ pinsAt fp s7.heap) σ8 H1 s1 → Nx H1 → ∃ m, m < n ∧ ∃ j H, InBlk X s₀ H₀ scope (compEnvC scope cl s₀.heap.objs.size X.env) fp (wipe σ (own.map (·.2))) tn j H s1 ∧ W j m H :=
          fun I1 nx => let ⟨m, lt, w1⟩ := less _ nx; ⟨m, lt, i + 1, _, B7.behind T I1 same, w1⟩
        cases yes with
        | false => exact next I9 q9
        | true => exact wpAny_mono ((he _ _ _ _ _ _ lets).run _ s9 σ8 H9 _ (toE _ I9) q9) (fun z s1 ⟨y, H1, I1, ry, acc, eD, small, nx⟩ => app_ok (X := X.blk s₀ H₀ scope (compEnvC scope cl s₀.heap.objs.size X.env) fp) (ofE I1) eD small ry fun s3 I3 => next I3 nx) fun _ _ z => z
    exact codeAny_compStart_list loop (T.self X.A 0 _ _ _ B4.itr loop)
end
end Dw

set_option maxHeartbeats 4400000
/-! Dw20: comprehensions that may raise, split, range with a step, is None. -/
namespace Dw
open PySem PySem.Spec PyProof.Rows L2
def lstR : Dn.Rs (List PyData) → Dn.Rs PyData
  | .ok l => .ok (.list l)
  | .exc c => .exc c
def appR (zs : List PyData) : Dn.Rs (List PyData) → Dn.Rs (List PyData)
  | .ok l => .ok (zs ++ l)
  | .exc c => .exc c
theorem appR_nil (r : Dn.Rs (List PyData)) : appR [] r = r := by cases r <;> rfl
theorem appR_app (a b : List PyData) (r : Dn.Rs (List PyData)) : appR a (appR b r) = appR (a ++ b) r := by
  cases r with
  | ok l => show Dn.Rs.ok (a ++ (b ++ l)) = .ok (a ++ b ++ l); rw [List.append_assoc]
  | exc c => rfl
section
variable {K : PySem.W.Frag} {cl : Str → Value} {E : XK}
theorem rdn_compX {E2 : XK} {wi : TI} {g : TG} {tt : TT} {te : TE} {vs gs : List Nat} {fi : Dn.AF} {fg : Dn.GF} {ft : Dn.TF} {fe : Dn.EF} (hi : RdI K cl E wi fi) (hg : RdG K g fg gs) (hgs : ∀ i ∈ gs, i ∈ vs) (ht : RdT K cl E2 tt ft) (he : Rd K cl E te fe) :
    RdN K cl E (tLc wi g tt te vs) (Dn.eCompX fi fg ft fe vs) := fun B F0 F H σ ρ R r e Q ok ex => by
  rcases bnd_cases e with ⟨ds, e1, e2⟩ | ⟨c, e1, rfl⟩
  · refine hi B F0 F H σ ρ R _ e1 _ (fun ds' ed J F1 H1 x1 wk => ?_) (fun c ec => by cases ec)
    cases ed
    have R1 := R.ext x1
    intro A hA
    split at e2
    · rename_i hlen
      obtain ⟨R0, e3, e4⟩ : ∃ R0, Dn.compLX fg ft fe (Dn.wipe ρ vs) ds = some R0 ∧ r = lstR R0 := by
        rcases bnd_cases e2 with ⟨ys, e3, e4⟩ | ⟨c, e3, rfl⟩
        · cases e4
          exact ⟨_, e3, rfl⟩
        · exact ⟨_, e3, rfl⟩
      · have hAB : B A = none := R1.bh.free hA
        have hAF : F1 A = none := x1.s.free hA
        have nA : ∀ (i : Nat) (s : Dn.Sl), (Dn.wipe ρ vs)[i]? = some (some s) → (∀ d, s ≠ .dat d) → (L2.wipe σ vs)[i]? ≠ some (some (.ref A)) := (R1.wipe vs).newOut hA
        refine ⟨fun i m H' => i + m = ds.length ∧ ∃ F' acc zs r', Rp K B F1 F' H' (L2.wipe σ vs) (Dn.wipe ρ vs) ∧ H' A = some (.lst acc) ∧ F' A = none ∧ DpAll K F' acc zs ∧ Dn.compLX fg ft fe (Dn.wipe ρ vs) (ds.drop i) = some r' ∧ appR zs r' = R0 ∧ Same H1 H' ∧ (∀ b o, F' b = some o → F1 b = some o ∨ H1 b = none ∨ ∃ xs, o = .tup xs) ∧ acc.length ≤ i,
          ⟨ds.length, by omega, F1, [], [], R0, ((R1.rebase).wipe vs).updOut _ hAB hAF nA, upd_same, hAF, .nil, e3, appR_nil R0, same_upd hA, fun _ _ q => .inl q, Nat.le_refl _⟩, ?_⟩
        rintro i m H' ⟨him, F', acc, zs, r', R', hacc, hFA, hq, hc, hz, sm, nw, hal⟩
        by_cases hlt : i < ds.length
        · rw [List.drop_eq_getElem_cons hlt] at hc
          unfold Dn.compLX at hc
          cases hg1 : fg ds[i] (Dn.wipe ρ vs) with
          | none => rw [hg1] at hc; cases hc
          | some ρ1 =>
            rw [hg1] at hc
            simp only at hc
            refine .inr ⟨wk.go i H' (R'.ff.trans R'.fh) hlt, fun H'' => ∃ F' acc zs r', Rp K B F1 F' H'' (L2.wipe σ vs) (Dn.wipe ρ vs) ∧ H'' A = some (.lst acc) ∧ F' A = none ∧ DpAll K F' acc zs ∧ Dn.compLX fg ft fe (Dn.wipe ρ vs) (ds.drop (i + 1)) = some r' ∧ appR zs r' = R0 ∧ Same H1 H'' ∧ (∀ b o, F' b = some o → F1 b = some o ∨ H1 b = none ∨ ∃ xs, o = .tup xs) ∧ acc.length ≤ i + 1,
              fun H'' h'' => ⟨m - 1, by omega, by omega, h''⟩, fun x H2 hy => ?_⟩
            obtain ⟨d', F2, hd', x2, q⟩ := wk.yld i F' H' x H2 R'.ff R'.fh hy hlt
            have ed : d' = ds[i] := by
              rw [List.getElem?_eq_getElem hlt] at hd'
              exact (Option.some.inj hd').symm
            subst ed
            have R2 := R'.ext x2
            refine hg B F1 F2 H2 _ _ x _ ρ1 R2 q hg1 _ fun σ2 R3 hw => ⟨?_, ?_⟩
            · rw [hw vs hgs]
              exact wipe_wipe fun _ h => h
            · cases ht1 : ft ρ1 with
              | none => rw [ht1] at hc; cases hc
              | some o =>
                rw [ht1] at hc
                cases o with
                | exc c => cases hc
                | ok b =>
                  refine ht B F1 F2 H2 σ2 ρ1 R3 _ ht1 _ (fun b' eb F3 H3 x3 => ?_) (fun c ec => by cases ec)
                  cases eb
                  cases b with
                  | true =>
                    rw [if_pos rfl]
                    simp only at hc
                    cases he1 : fe ρ1 with
                    | none => rw [he1] at hc; cases hc
                    | some o =>
                      rw [he1] at hc
                      cases o with
                      | exc c =>
                        cases hc
                        refine he B F1 F3 H3 σ2 ρ1 (R3.ext x3) _ he1 _ (fun y' ey => by cases ey) (fun c' ec F4 H4 x4 => ?_)
                        cases ec
                        have xx := (x2.trans x3).trans x4
                        refine ex c (by rw [e4, ← hz]; rfl) F4 H4 ⟨x1.f.trans (R'.ff.trans xx.f), xx.s, x1.h.trans (sm.trans xx.h), fun b o hb => ?_⟩
                        rcases xx.n b o hb with z | z | z
                        · rcases nw b o z with z | z | z
                          · exact x1.n b o z
                          · exact .inr (.inl (x1.h.free z))
                          · exact .inr (.inr z)
                        · exact .inr (.inl (x1.h.free (sm.free z)))
                        · exact .inr (.inr z)
                      | ok y =>
                        rw [Dn.bnd_ok] at hc
                        obtain ⟨r2, e5, e6⟩ : ∃ r2, Dn.compLX fg ft fe (Dn.wipe ρ vs) (ds.drop (i + 1)) = some r2 ∧ r' = appR [y] r2 := by
                          rcases bnd_cases hc with ⟨r2, e5, e6⟩ | ⟨c, e5, e6⟩
                          · cases e6
                            exact ⟨_, e5, rfl⟩
                          · exact ⟨_, e5, e6⟩
                        · subst e6
                          refine he B F1 F3 H3 σ2 ρ1 (R3.ext x3) _ he1 _ (fun y' ey v F4 H4 x4 q4 => ?_) (fun c ec => by cases ec)
                          cases ey
                          have xx := (x2.trans x3).trans x4
                          have hA4 : H4 A = some (.lst acc) := xx.h _ _ hacc
                          have hF4 : F4 A = none := not_f xx hacc hFA
                          refine ⟨acc, hA4, lineM (by omega), F4, acc ++ [v], zs ++ [y], r2, ((R'.ext xx).updOut _ hAB hF4 nA), upd_same, hF4, DpAll_app (DpAll_mono xx.f hq) (DpAll_one q4), e5, by rw [← appR_app]; exact hz, fun b o hb => ?_, fun b o hb => ?_, ?_⟩
                          · have hne : b ≠ A := ne_of_none hb hA
                            rw [upd_ne hne]
                            exact xx.h _ _ (sm b o hb)
                          · rcases xx.n b o hb with z | z | z
                            · exact nw b o z
                            · exact .inr (.inl (sm.free z))
                            · exact .inr (.inr z)
                          · rw [List.length_append, List.length_singleton]
                            omega
                  | false =>
                    rw [if_neg Bool.false_ne_true]
                    simp only at hc
                    have xx := x2.trans x3
                    exact ⟨F3, acc, zs, r', R'.ext xx, xx.h _ _ hacc, not_f xx hacc hFA, DpAll_mono xx.f hq, hc, hz, sm.trans xx.h, fun b o hb => by
                      rcases xx.n b o hb with z | z | z
                      · exact nw b o z
                      · exact .inr (.inl (sm.free z))
                      · exact .inr (.inr z), by omega⟩
        · rw [List.drop_eq_nil_of_le (by omega)] at hc
          have e5 : r' = .ok [] := (Option.some.inj hc).symm
          subst e5
          have hz' : r = .ok (.list zs) := by
            rw [e4, ← hz]
            show Dn.Rs.ok (PyData.list (zs ++ [])) = _
            rw [List.append_nil]
          refine .inl ⟨wk.stop i H' (R'.ff.trans R'.fh) (by omega), ok _ hz' A acc zs F' H' ⟨x1.f.trans R'.ff, R'.fh, x1.h.trans sm, fun b o hb => ?_⟩ rfl (x1.h.free hA) hFA hacc hq⟩
          rcases nw b o hb with z | z | z
          · exact x1.n b o z
          · exact .inr (.inl (x1.h.free z))
          · exact .inr (.inr z)
    · cases e2
  · exact hi B F0 F H σ ρ R _ e1 _ (fun d ed => by cases ed) (fun c' ec F' H' x => by cases ec; exact ex c rfl F' H' x)
/-! split -/
theorem dp_strs {F : Hp} : ∀ ys : List Str, DpAll K F (ys.map V.str) (ys.map PyData.str)
  | [] => .nil
  | y :: ys => .cons (.str y) (dp_strs ys)
def rSplit : V → List V → Hp → VK → Prop := fun x xs H Q => ∃ a b, x = .str a ∧ xs = [.str b] ∧ (b.length == 0) = false ∧ a.length + 2 ≤ sizeLine ∧ rNewStrs (Txt.split a b) H Q
theorem rdn_split {ta tb : TE} {fa fb : Dn.EF} (ha : RdW K cl E ta fa) (hb : RdW K cl E tb fb) : RdN K cl E (tM1 rSplit ta tb) (Dn.eSplit fa fb) := fun B F0 F H σ ρ R r e Q ok ex => by
  rcases bnd_cases e with ⟨a, e1, e2⟩ | ⟨c, e1, rfl⟩
  · refine ha B F0 F H σ ρ R _ e1 _ (fun d ed v F1 H1 x1 w1 => ?_) (fun c ec => by cases ec)
    cases ed
    split at e2
    · rename_i z
      have hv := w1.str
      subst hv
      refine ⟨⟨z, rfl⟩, ?_⟩
      rcases bnd_cases e2 with ⟨b, e3, e4⟩ | ⟨c, e3, rfl⟩
      · refine hb B F0 F1 H1 σ ρ (R.ext x1) _ e3 _ (fun d2 ed2 v2 F2 H2 x2 w2 => ?_) (fun c ec => by cases ec)
        cases ed2
        obtain ⟨y, ez, rfl⟩ := lft_cases e4
        unfold Dn.splitD at ez
        split at ez
        · rename_i a' b' ha'
          cases ha'
          split at ez
          · rename_i hc
            cases ez
            have hv2 := w2.str
            subst hv2
            refine ⟨z, b', rfl, rfl, by simpa using hc.1, (Nat.le_trans (Nat.add_le_add_right hc.2 2) (by decide)), fun p hp => ?_⟩
            exact ok _ rfl p _ _ F2 _ ((x1.trans x2).trans (Ext.freshO x2.s _ hp)) rfl ((x1.trans x2).h.free hp) (x2.s.free hp) upd_same (dp_strs _)
          · cases ez
        · cases ez
      · exact hb B F0 F1 H1 σ ρ (R.ext x1) _ e3 _ (fun d2 ed2 => by cases ed2) (fun c' ec F' H' x => by cases ec; exact ex c rfl F' H' (x1.trans x))
    · cases e2
  · exact ha B F0 F H σ ρ R _ e1 _ (fun d ed => by cases ed) (fun c' ec F' H' x => by cases ec; exact ex c rfl F' H' x)
/-! range with a step -/
theorem walk_rgC {F : Hp} (lo c : Int) (n : Nat) : Walk K (Itc lo c n) F (Dn.rgL3 lo c n) where
  go := fun i H s hi => by
    unfold Dn.rgL3 at hi
    rw [List.length_map, List.length_range] at hi
    exact hi
  stop := fun i H s hi => by
    unfold Dn.rgL3 at hi
    rw [List.length_map, List.length_range] at hi
    exact hi
  yld := fun i F' H x H' s1 s2 hy hi => by
    obtain ⟨rfl, rfl⟩ := hy
    unfold Dn.rgL3 at hi ⊢
    rw [List.length_map, List.length_range] at hi
    exact ⟨.int (lo + (i : Nat) * c), F', by rw [List.getElem?_map, List.getElem?_range hi]; rfl, Ext.refl s2, .int _⟩
theorem rgC_of {a b c : Int} (h1 : -1000000 ≤ a ∧ a ≤ 1000000) (h2 : -1000000 ≤ b ∧ b ≤ 1000000) (h3 : 1 ≤ c ∧ c ≤ 1000) : RgC a b c (Builtin.Range.rangeSize a b c).toNat := by
  have hs : 0 ≤ Builtin.Range.rangeSize a b c ∧ Builtin.Range.rangeSize a b c ≤ 2000001 := by
    unfold Builtin.Range.rangeSize
    rw [if_pos (by omega)]
    split
    · have h0 := Int.ediv_nonneg (a := b - a - 1) (b := c) (by omega) (by omega)
      have h4 := Int.ediv_le_self (a := b - a - 1) c (by omega)
      omega
    · omega
  refine ⟨by omega, by omega, ?_, by omega⟩
  unfold Builtin.Range.small
  simp only [Builtin.Range.rangeFitsLong, Bool.and_eq_true, Bool.or_eq_true, decide_eq_true_eq, beq_iff_eq, show c > 0 from by omega, if_true]
  omega
theorem rdi_rng3 {t u v : TE} {f g h : Dn.EF} (ha : RdW K cl E t f) (hb : RdW K cl E u g) (hc : RdW K cl E v h) : RdI K cl E (L2.iRng3 (tCons t (tCons u (tCons v tNil)))) (Dn.iRng3 f g h) := fun B F0 F H σ ρ R r e Q ok ex => by
  rcases bnd_cases e with ⟨a, e1, e2⟩ | ⟨c, e1, rfl⟩
  · refine ha B F0 F H σ ρ R _ e1 _ (fun d ed v F1 H1 x1 w1 => ?_) (fun c ec => by cases ec)
    cases ed
    rcases bnd_cases e2 with ⟨b, e3, e4⟩ | ⟨c, e3, rfl⟩
    · refine hb B F0 F1 H1 σ ρ (R.ext x1) _ e3 _ (fun d2 ed2 v2 F2 H2 x2 w2 => ?_) (fun c ec => by cases ec)
      cases ed2
      rcases bnd_cases e4 with ⟨z, e5, e6⟩ | ⟨c, e5, rfl⟩
      · refine hc B F0 F2 H2 σ ρ (R.ext (x1.trans x2)) _ e5 _ (fun d3 ed3 v3 F3 H3 x3 w3 => ?_) (fun c ec => by cases ec)
        cases ed3
        obtain ⟨ds, ez, rfl⟩ := lft_cases e6
        unfold Dn.range3D at ez
        split at ez
        · rename_i i j k
          split at ez
          · rename_i hk
            cases ez
            simp only [Bool.and_eq_true, decide_eq_true_eq] at hk
            exact ⟨i, j, k, _, by rw [w1.int, w2.int, w3.int], rgC_of (rgOk_of hk.1.1) (rgOk_of hk.1.2) hk.2, ok _ rfl _ F3 H3 ((x1.trans x2).trans x3) (walk_rgC i k _)⟩
          · cases ez
        · cases ez
      · exact hc B F0 F2 H2 σ ρ (R.ext (x1.trans x2)) _ e5 _ (fun d2 ed2 => by cases ed2) (fun c' ec F' H' x => by cases ec; exact ex c rfl F' H' ((x1.trans x2).trans x))
    · exact hb B F0 F1 H1 σ ρ (R.ext x1) _ e3 _ (fun d2 ed2 => by cases ed2) (fun c' ec F' H' x => by cases ec; exact ex c rfl F' H' (x1.trans x))
  · exact ha B F0 F H σ ρ R _ e1 _ (fun d ed => by cases ed) (fun c' ec F' H' x => by cases ec; exact ex c rfl F' H' x)
end
section
variable {X : Cx}
theorem isNon_W {K : PySem.W.Frag} {F H : Hp} {x : V} {d : PyData} {r : PyData} (w : W K F H x d) (h : Dn.isNonD d = some r) : r = .bool (decide (x = .non)) := by
  cases d with
  | none => have := w.non; subst this; cases h; rfl
  | bool b => have := w.bl; subst this; cases h; rfl
  | int b => have := w.int; subst this; cases h; rfl
  | str b => have := w.str; subst this; cases h; rfl
  | list b =>
    rcases w with w | ⟨a, vs, ds, rfl, e, _⟩
    · cases w; cases h; rfl
    · cases h; rfl
  | tuple b =>
    obtain ⟨a, vs, rfl, _⟩ := w.tuple
    cases h; rfl
  | dict b => cases h
theorem op_isX : OpR X (compareOp .Is) (rD2 X.K Dn.isD) := by
  intro pins s σ H x y v u Q I rx ry h
  obtain ⟨F, d, e, r, hs, wx, wy, hg, q⟩ := h
  unfold Dn.isD at hg
  split at hg
  · have hy := wy.non
    subst hy
    have hr := isNon_W wx hg
    subst hr
    exact op_isN pins s σ H x .non v u Q I rx ry ⟨rfl, q _ F H (Ext.refl hs) (.bl _)⟩
  · cases hg
end
/-- .. and gives [(), None][int(it)] -/
theorem pss_suite3 {X : Cx} {a : Addr} {oe : Obj} {pn : List (Addr × Obj)} {C A1 A2 A3 A4 S : Addr} {i j g : Nat} {st : List Stmt} (T : XS X.K C A1 A2 A3 A4 S) (hij : i ≠ j) (hj : j < X.N.length) (hg : g < X.N.length)
    (h : PSs (X.suite a ((a, oe) :: pn)) st (tSeq (tSome X.K C a A1 A2 A3 A4 i j) (tSeq (tAsg (tSay X.K C a S i j) (L2.gName g)) (tRet (tOp (rD2 X.K Dn.ixD) (tLst (tCons (tTup tNil) (tCons (tC .non) tNil))) (tCB (rDC1 X.K Dn.intD) (tCons (tVar g) tNil))))))) : PSs (X.suite a ((a, oe) :: pn)) st (tSuite X.K i .none a) :=
  ⟨fun pins s σ H D I ⟨h1, h2, h3⟩ => h.run pins s σ H D I (by
    have hl : j < σ.length := by rw [I.len]; exact hj
    have hl2 : g < σ.length := by rw [I.len]; exact hg
    refine some_go (S := S) T hij hl h1 fun p hp => say_go T hij hl h1 ?_
    refine ⟨by show 0 ≤ sizeLine; decide, fun p2 hp2 => ⟨by show 2 ≤ sizeLine; decide, fun p3 hp3 => ?_⟩⟩
    refine ⟨.bl true, List.getElem?_set_self (by rw [List.length_set]; exact hl2), ?_⟩
    refine ⟨.bl true, rfl, fun _ => none, .bool true, .int 1, (fun _ _ e => by cases e), Or.inl (.bl true), rfl, fun v F' H' x q => ?_⟩
    cases q
    have s3 : Same (upd (upd H p (.lst ([false, false, false, false].map V.bl))) p2 (.tup [])) (upd (upd (upd H p (.lst ([false, false, false, false].map V.bl))) p2 (.tup [])) p3 (.lst [V.ref p2, V.non])) := same_upd hp3
    have s0 := ((same_upd hp).trans (same_upd hp2)).trans s3
    refine ⟨_, .list [.tuple [], .none], .int 1, .none, Same.refl _, Or.inl (.lst (SqL.of (x.h _ _ upd_same)) (.cons (.tup (SqT.of (x.h _ _ (s3 _ _ upd_same))) .nil) (.cons .non .nil))), Or.inl (.int 1), rfl, fun v2 F2 H2 x2 q2 => ?_⟩
    cases q2
    exact h3 _ _ ((s0.trans x.h).trans x2.h) fun F => .non)⟩
end Dw

set_option maxHeartbeats 4400000
/-! Dw22: the slots of sets of up to 300 tuples, all unlike: tables of up to 512 slots. -/
namespace Dw
open PySem PySem.Spec PyProof.Rows L2
def Mk (m : Nat) : Prop := MaskOk m ∨ m = 511
def inv511 : List Nat :=
  [0, 1, 326, 495, 412, 365, 2, 379, 376, 281, 254, 327, 404, 261, 58, 339, 496, 305, 438, 415, 140, 413, 370, 43, 360, 73, 366, 247, 132, 309, 426, 3, 
   480, 97, 38, 335, 380, 461, 226, 219, 344, 377, 478, 167, 372, 357, 282, 179, 464, 401, 150, 255, 108, 509, 82, 395, 328, 169, 78, 87, 100, 405, 138, 
   355, 448, 193, 262, 175, 348, 45, 450, 59, 312, 473, 190, 7, 340, 453, 506, 19, 432, 497, 374, 95, 76, 93, 306, 235, 296, 265, 302, 439, 68, 501, 362, 
   195, 416, 289, 486, 15, 316, 141, 162, 411, 280, 57, 414, 359, 308, 37, 218, 371, 400, 81, 86, 447, 44, 189, 18, 75, 264, 361, 14, 279, 36, 85, 74, 
   35, 384, 385, 198, 367, 284, 237, 386, 251, 248, 153, 126, 199, 276, 133, 442, 211, 368, 177, 310, 287, 12, 285, 242, 427, 232, 457, 238, 119, 4, 181, 
   298, 387, 352, 481, 422, 207, 252, 333, 98, 91, 216, 249, 350, 39, 244, 229, 154, 51, 336, 273, 22, 127, 492, 381, 466, 267, 200, 41, 462, 471, 484, 
   277, 10, 227, 320, 65, 134, 47, 220, 429, 322, 443, 184, 345, 62, 391, 212, 325, 378, 403, 304, 369, 246, 479, 460, 477, 178, 107, 168, 137, 174, 311, 
   452, 373, 234, 67, 288, 161, 358, 399, 188, 13, 34, 283, 152, 441, 286, 231, 180, 421, 90, 243, 272, 465, 470, 319, 428, 61, 402, 459, 136, 233, 398, 
   151, 420, 469, 458, 419, 256, 257, 70, 239, 156, 109, 258, 123, 120, 25, 510, 71, 148, 5, 314, 83, 240, 49, 182, 159, 396, 157, 114, 299, 104, 329, 
   110, 503, 388, 53, 170, 259, 224, 353, 294, 79, 124, 205, 482, 475, 88, 121, 222, 423, 116, 101, 26, 435, 208, 145, 406, 511, 364, 253, 338, 139, 72, 
   425, 334, 343, 356, 149, 394, 99, 192, 449, 6, 431, 92, 301, 194, 315, 56, 217, 446, 263, 84, 197, 250, 275, 176, 241, 118, 351, 332, 349, 50, 491, 
   40, 9, 46, 183, 324, 245, 106, 451, 160, 33, 230, 271, 60, 397, 418, 155, 24, 313, 158, 103, 52, 293, 474, 115, 144, 337, 342, 191, 300, 445, 274, 331, 
   8, 105, 270, 23, 292, 341, 330, 291, 128, 129, 454, 111, 28, 493, 130, 507, 504, 409, 382, 455, 20, 389, 186, 467, 112, 433, 54, 31, 268, 29, 498, 171, 
   488, 201, 494, 375, 260, 437, 42, 131, 96, 225, 166, 463, 508, 77, 354, 347, 472, 505, 94, 295, 500, 485, 410, 307, 80, 17, 278, 383, 236, 125, 210, 
   11, 456, 297, 206, 215, 228, 21, 266, 483, 64, 321, 390, 303, 476, 173, 66, 187, 440, 89, 318, 135, 468, 69, 122, 147, 48, 113, 502, 223, 204, 221, 
   434, 363, 424, 393, 430, 55, 196, 117, 490, 323, 32, 417, 102, 143, 444, 269, 290, 27, 408, 185, 30, 487, 436, 165, 346, 499, 16, 209, 214, 63, 172, 
   317, 146, 203, 392, 489, 142, 407, 164, 213, 202, 163]
theorem inv511_ok : ((List.range 512).all fun j => Nat.ble (inv511.getD j 0) 511 && Nat.beq (lcgN 511 (inv511.getD j 0)) j) = true := by decide +kernel
theorem turn511 : lcgN 511 512 = 0 := by decide +kernel
section
variable {m : Nat}
theorem Mk.from0 (h : Mk m) {j : Nat} (hj : j ≤ m) : ∃ b, b ≤ m ∧ lcgN m b = j := by
  rcases h with h | rfl
  · exact lcg_all h hj
  · have := List.all_eq_true.mp inv511_ok j (List.mem_range.mpr (by omega))
    rw [Bool.and_eq_true] at this
    exact ⟨_, Nat.le_of_ble_eq_true this.1, Nat.eq_of_beq_eq_true this.2⟩
theorem Mk.home (h : Mk m) : lcgN m (m + 1) = 0 := by
  rcases h with h | rfl
  · exact lcg_round h
  · exact turn511
theorem Mk.again (h : Mk m) (k : Nat) : lcgN m (m + 1 + k) = lcgN m k := by
  have e := lcgN_add m (m + 1) k
  rw [h.home] at e
  have e2 := lcgN_add m 0 k
  rw [Nat.zero_add] at e2
  exact e.symm.trans e2
theorem Mk.to (h : Mk m) {i j : Nat} (hi : i ≤ m) (hj : j ≤ m) : ∃ k, k ≤ m ∧ lcgI m i k = j := by
  obtain ⟨a, ha, rfl⟩ := h.from0 hi
  obtain ⟨b, hb, rfl⟩ := h.from0 hj
  by_cases c : a ≤ b
  · exact ⟨b - a, by omega, by rw [lcgN_add, Nat.add_sub_cancel' c]⟩
  · exact ⟨m + 1 + b - a, by omega, by rw [lcgN_add, Nat.add_sub_cancel' (by omega), h.again]⟩
theorem Mk.run (h : Mk m) (z : Int) {j : Nat} (hj : j ≤ m) : ∃ n, n ≤ m + 12 ∧ runI m (SetTable.bits z) n = j := by
  obtain ⟨k, hk, e⟩ := h.to (runI_le m _ 12) hj
  exact ⟨12 + k, Nat.add_comm 12 k ▸ Nat.add_le_add_right hk 12, (runI_tail (bits_lt z) k).trans e⟩
theorem way_in (z : Int) (k : Nat) : way m z k ≤ m := by
  have hs : SetTable.bits z % (m + 1) ≤ m := Nat.lt_succ_iff.mp (Nat.mod_lt _ m.succ_pos)
  have hr := runEnd_bd hs
  have := nth_in k (runAt m (SetTable.bits z % (m + 1)) (SetTable.bits z)) (show SetTable.bits z % (m + 1) + (SetTable.runEnd m _ - SetTable.bits z % (m + 1)) ≤ m by omega)
  exact Nat.le_trans (Nat.le_add_right _ _) this
/-- the first slot of the way that isn't taken -/
theorem Mk.out (h : Mk m) (ps : List Nat) (hl : ps.length ≤ m) (z : Int) : ∃ K, K < 10 * SetTable.turns m ∧ way m z K ∉ ps ∧ ∀ k, k < K → way m z k ∈ ps := by
  obtain ⟨j, hj, hn⟩ := st_missing ps (m + 1) (by omega)
  obtain ⟨n, hn2, e⟩ := h.run z (Nat.lt_succ_iff.mp hj)
  obtain ⟨k, hk, e2⟩ := run_nth m (SetTable.bits z) n
  have hw : way m z k ∉ ps := by
    show (nth m _ k).j ∉ ps
    rw [e2]
    show runI m _ n ∉ ps
    rw [e]
    exact hn
  obtain ⟨K, h1, h2, h3⟩ := st_least (p := fun k => way m z k ∉ ps) k hw
  refine ⟨K, ?_, h2, fun i hi => Decidable.not_not.mp (h3 i hi)⟩
  have : SetTable.turns m = m + 15 := rfl
  omega
/-- a free slot, in laying anew -/
theorem Mk.free (h : Mk m) (ow : Array (Option Nat)) (z : Int) {j : Nat} (hj : j ≤ m) (hf : oAt ow j = none) : ∃ d, d ≤ m ∧ oAt ow d = none ∧ SetTable.layClean.free m ow (SetTable.turns m) (SetTable.bits z % (m + 1)) (SetTable.bits z) = some d := by
  obtain ⟨n, hn, e⟩ := h.run z hj
  have hp : oAt ow (way m z (off m (SetTable.bits z % (m + 1)) (SetTable.bits z) n)) = none := by
    show oAt ow (nth m _ _).j = none
    rw [nth_off, itL_run]
    show oAt ow (runI m _ n) = none
    rw [e, hf]
  obtain ⟨K, h1, h2, h3⟩ := st_least (p := fun k => oAt ow (way m z k) = none) _ hp
  refine ⟨way m z K, way_in z K, h2, free_spec m ow _ n _ _ K (by show n < m + 15; omega) h1 (fun k hk => ?_) (by show Option.isNone (oAt ow (way m z K)) = true; rw [h2]; rfl)⟩
  have := h3 k hk
  show Option.isNone (oAt ow (way m z k)) = false
  revert this
  cases oAt ow (way m z k) with
  | none => exact fun f => absurd rfl f
  | some _ => exact fun _ => rfl
/-- n are laid -/
structure Lay (m n : Nat) (ow : Array (Option Nat)) : Prop where
  wide : ow.size = m + 1
  each : ∀ k, k < n → ∃ j, j ≤ m ∧ oAt ow j = some k
  used : ∃ ps : List Nat, ps.length = n ∧ ∀ j, j ≤ m → oAt ow j ≠ none → j ∈ ps
theorem Lay.zero (m : Nat) : Lay m 0 (Array.replicate (m + 1) none) := ⟨Array.size_replicate, fun k hk => absurd hk (by omega), [], rfl, fun j hj e => absurd (oAt_init hj) e⟩
theorem Lay.more (h : Mk m) {n : Nat} {ow : Array (Option Nat)} (L : Lay m n ow) (hn : n ≤ m) (z : Int) :
    ∃ d, SetTable.layClean.free m ow (SetTable.turns m) (SetTable.bits z % (m + 1)) (SetTable.bits z) = some d ∧ Lay m (n + 1) (ow.setIfInBounds d (some n)) := by
  obtain ⟨ps, hp, hu⟩ := L.used
  obtain ⟨j, hj, hnj⟩ := st_missing ps (m + 1) (by omega)
  have hj0 : oAt ow j = none := by
    by_cases c : oAt ow j = none
    · exact c
    · exact absurd (hu j (by omega) c) hnj
  obtain ⟨d, hd, h0, hf⟩ := h.free ow z (Nat.lt_succ_iff.mp hj) hj0
  have hs := oAt_set_self (some n) (show d < ow.size by rw [L.wide]; omega)
  refine ⟨d, hf, by rw [Array.size_setIfInBounds, L.wide], fun k hk => ?_, d :: ps, by rw [List.length_cons, hp], fun i hi e => ?_⟩
  · by_cases c : k = n
    · exact ⟨d, hd, by rw [hs, c]⟩
    · obtain ⟨i, hi, e⟩ := L.each k (by omega)
      exact ⟨i, hi, by rw [oAt_set_ne _ (fun q => by rw [q, h0] at e; cases e), e]⟩
  · by_cases c : i = d
    · rw [c]
      exact List.mem_cons_self
    · rw [oAt_set_ne _ c] at e
      exact List.mem_cons_of_mem _ (hu i hi e)
theorem Lay.fold (h : Mk m) : ∀ (zs : List Int) (n : Nat) (ow : Array (Option Nat)), Lay m n ow → n + zs.length ≤ m → ∃ ow', zs.foldl (stepF m) (some (ow, n)) = some (ow', n + zs.length) ∧ Lay m (n + zs.length) ow'
  | [], n, ow, L, _ => ⟨ow, rfl, L⟩
  | z :: zs, n, ow, L, hl => by
    have hl : n + (zs.length + 1) ≤ m := hl
    obtain ⟨d, hf, L1⟩ := L.more h (by omega) z
    obtain ⟨ow2, e, L2⟩ := Lay.fold h zs (n + 1) _ L1 (by omega)
    have en : n + (z :: zs).length = n + 1 + zs.length := by rw [List.length_cons]; omega
    rw [en]
    exact ⟨ow2, by rw [List.foldl_cons, stepF_some hf, e], L2⟩
theorem rl_ok (t : SetTable) {hs : Array Int} {k : Nat} (hw : SetTable.sizeAbove k - 1 = m) (h : Mk m) (hn : hs.size ≤ m) :
    ∃ t' od, t.relaid hs k = some (t', od) ∧ od.toList.Perm (List.range hs.size) ∧ Ris t'.place.toList ∧ t'.place.size = hs.size ∧ t'.dummies = #[] ∧ t'.mask = m ∧ t'.led = t.led ∧ t'.plain = t.plain := by
  obtain ⟨ow, e, L⟩ := Lay.fold h hs.toList 0 _ (Lay.zero m) (by rw [Array.length_toList]; omega)
  rw [Array.length_toList, Nat.zero_add] at e L
  have hr : t.relaid hs k = some (tabOf t m ow, ((liveOf m ow).map Prod.snd).toArray) := by
    rw [relaid_eq, hw, layClean_eq, e]
    rfl
  have hris : Ris ((liveOf m ow).map Prod.fst) := (ris_live (fun j => ow.getD j none) (List.range (m + 1)) List.pairwise_lt_range).1
  obtain ⟨ps, p1, p2⟩ := L.used
  have a1 : (liveOf m ow).length ≤ hs.size := by
    have := nat_nodup_len _ ps (hris.imp fun q => Nat.ne_of_lt q) fun x hx => by
      obtain ⟨⟨y, k⟩, hq, rfl⟩ := List.mem_map.mp hx
      have := (mem_live L.wide).mp hq
      exact p2 y this.1 (by rw [this.2]; exact Option.some_ne_none k)
    rw [List.length_map, p1] at this
    exact this
  have hin : ∀ k, k < hs.size → k ∈ (liveOf m ow).map Prod.snd := fun k hk => by
    obtain ⟨j, hj, e⟩ := L.each k hk
    exact List.mem_map.mpr ⟨(j, k), (mem_live L.wide).mpr ⟨hj, e⟩, rfl⟩
  have a2 : hs.size ≤ (liveOf m ow).length := by
    have := nat_nodup_len _ _ List.nodup_range fun x hx => hin x (List.mem_range.mp hx)
    rw [List.length_map, List.length_range] at this
    exact this
  refine ⟨_, _, hr, perm_range _ _ (by show ((liveOf m ow).map Prod.snd).length = _; rw [List.length_map]; omega) hin, hris, ?_, rfl, rfl, rfl, rfl⟩
  show ((liveOf m ow).map Prod.fst).toArray.size = hs.size
  rw [List.size_toArray, List.length_map]
  omega
end
theorem size_77 : SetTable.sizeAbove (SetTable.grown 77) = 512 := by decide +kernel
end Dw

set_option maxHeartbeats 4400000
namespace Dg
/-- _law_drawn: 0 _law_number_here 1 _law_k 2 _law_drawn_here -/
noncomputable def b_L_drawn : Dn.SF :=
    (Dn.sSeq (Dn.sAsg (Dn.gName 2) (Dn.e2 Dn.modD (Dn.e2 Dn.mulD (Dn.e2 Dn.addD (Dn.e2 Dn.addD (Dn.eVarW 0) (Dn.e2 Dn.mulD (Dn.eC (.int 104729)) (Dn.eVarW 1))) (Dn.eC (.int 17))) (Dn.eC (.int 69621))) (Dn.eC (.int 2147483647))))
    (Dn.sRet (Dn.e2 Dn.modD (Dn.e2 Dn.addD (Dn.e2 Dn.addD (Dn.e2 Dn.mulD (Dn.eVarW 2) (Dn.eVarW 2)) (Dn.e2 Dn.mulD (Dn.eC (.int 3)) (Dn.eVarW 2))) (Dn.eVarW 1)) (Dn.eC (.int 2147483629)))))
noncomputable def L_drawn : Dn.FF := Dn.noX (Dn.runF 2 3 b_L_drawn)
/-- _law_yard: 0 _law_number_here 1 _law_most 2 _law_wide 3 _law_count 4 _law_found_here 5 _law_place 6 _law_k 7 _law_low 8 _law_high 9 _law_names 10 _law_at 11 _law_links 12 _law_one 13 _law_other -/
noncomputable def b_L_yard : Dn.SF :=
    (Dn.sSeq (Dn.sAsg (Dn.gName 3) (Dn.e2 Dn.addD (Dn.eC (.int 1)) (Dn.e2 Dn.modD (Dn.eVarW 0) (Dn.eVarW 1))))
    (Dn.sSeq (Dn.sDictNew 4)
    (Dn.sSeq (Dn.sFor (Dn.iRng2 (Dn.eC (.int 1)) (Dn.e2 Dn.addD (Dn.eVarW 3) (Dn.eC (.int 1)))) (Dn.gName 5) (Dn.sDictSet 4 (Dn.e2 Dn.modD (Dn.eCall L_drawn (Dn.aCons (Dn.eVar 0) (Dn.aCons (Dn.eVar 5) Dn.aNil))) (Dn.eVarW 5)) (Dn.eVarW 5) (Dn.e2 Dn.addD (Dn.eC (.int 1)) (Dn.e2 Dn.modD (Dn.eCall L_drawn (Dn.aCons (Dn.eVar 0) (Dn.aCons (Dn.e2 Dn.addD (Dn.eC (.int 10)) (Dn.eVarW 5)) Dn.aNil))) (Dn.eVarW 2)))))
    (Dn.sSeq (Dn.sFor (Dn.iRng1 (Dn.e2 Dn.modD (Dn.e2 Dn.fdivD (Dn.eVarW 0) (Dn.eC (.int 7))) (Dn.eC (.int 4)))) (Dn.gName 6) (Dn.sSeq (Dn.sAsg (Dn.gName 7) (Dn.e2 Dn.modD (Dn.eCall L_drawn (Dn.aCons (Dn.eVar 0) (Dn.aCons (Dn.e2 Dn.addD (Dn.eC (.int 20)) (Dn.eVarW 6)) Dn.aNil))) (Dn.e2 Dn.addD (Dn.eVarW 3) (Dn.eC (.int 1)))))
    (Dn.sSeq (Dn.sAsg (Dn.gName 8) (Dn.e2 Dn.modD (Dn.eCall L_drawn (Dn.aCons (Dn.eVar 0) (Dn.aCons (Dn.e2 Dn.addD (Dn.eC (.int 30)) (Dn.eVarW 6)) Dn.aNil))) (Dn.e2 Dn.addD (Dn.eVarW 3) (Dn.eC (.int 1)))))
    (Dn.sIf (Dn.asB (Dn.e2 Dn.ltD (Dn.eVarW 7) (Dn.eVarW 8))) (Dn.sDictSet 4 (Dn.eVarW 7) (Dn.eVarW 8) (Dn.e2 Dn.addD (Dn.eC (.int 1)) (Dn.e2 Dn.modD (Dn.eCall L_drawn (Dn.aCons (Dn.eVar 0) (Dn.aCons (Dn.e2 Dn.addD (Dn.eC (.int 40)) (Dn.eVarW 6)) Dn.aNil))) (Dn.eVarW 2)))) Dn.sNx))))
    (Dn.sSeq (Dn.sAsg (Dn.gName 9) (Dn.eLst (Dn.aCons (Dn.eC (.int 0)) Dn.aNil)))
    (Dn.sSeq (Dn.sFor (Dn.iRng2 (Dn.eC (.int 1)) (Dn.e2 Dn.addD (Dn.eVarW 3) (Dn.eC (.int 1)))) (Dn.gName 5) (Dn.sSeq (Dn.sAsg (Dn.gName 10) (Dn.e2 Dn.addD (Dn.eC (.int 1)) (Dn.e2 Dn.modD (Dn.eCall L_drawn (Dn.aCons (Dn.eVar 0) (Dn.aCons (Dn.e2 Dn.addD (Dn.eC (.int 60)) (Dn.eVarW 5)) Dn.aNil))) (Dn.eVarW 5))))
    (Dn.sAsg (Dn.gName 9) (Dn.e2 Dn.addD (Dn.e2 Dn.addD (Dn.eCut (Dn.eVarW 9) Dn.oNo (Dn.oInt (Dn.eVarW 10))) (Dn.eLst (Dn.aCons (Dn.eVar 5) Dn.aNil))) (Dn.eCut (Dn.eVarW 9) (Dn.oInt (Dn.eVarW 10)) Dn.oNo)))))
    (Dn.sSeq (Dn.sOwn 11 (Dn.eLst Dn.aNil))
    (Dn.sSeq (Dn.sForKeys 4 (Dn.gTup [7, 8]) (Dn.sSeq (Dn.sAsg (Dn.gName 12) (Dn.e2 Dn.ixD (Dn.eVarW 9) (Dn.eVarW 7)))
    (Dn.sSeq (Dn.sAsg (Dn.gName 13) (Dn.e2 Dn.ixD (Dn.eVarW 9) (Dn.eVarW 8)))
    (Dn.sApp 11 (Dn.eTup (Dn.aCons (Dn.e2 Dn.min2D (Dn.eVarW 12) (Dn.eVarW 13)) (Dn.aCons (Dn.e2 Dn.max2D (Dn.eVarW 12) (Dn.eVarW 13)) (Dn.aCons (Dn.eDictGet 4 (Dn.eVarW 7) (Dn.eVarW 8)) Dn.aNil))))))))
    (Dn.sRet (Dn.eTup (Dn.aCons (Dn.eVar 3) (Dn.aCons (Dn.e1 Dn.tupD (Dn.e1 Dn.sortD (Dn.eVarW 11))) Dn.aNil))))))))))))
noncomputable def L_yard : Dn.FF := Dn.noX (Dn.runF 3 14 b_L_yard)
/-- _law_written: 0 _law_yard_here 1 _law_found_here 2 _law_link 3 _law_part -/
noncomputable def b_L_written : Dn.SF :=
    (Dn.sSeq (Dn.sAsg (Dn.gName 1) (Dn.e2 Dn.addD (Dn.eC (.str "yard ")) (Dn.e1 Dn.strD (Dn.e2 Dn.ixD (Dn.eVarW 0) (Dn.eC (.int 0))))))
    (Dn.sSeq (Dn.sFor (Dn.iSeq (Dn.e2 Dn.ixD (Dn.eVarW 0) (Dn.eC (.int 1)))) (Dn.gName 2) (Dn.sSeq (Dn.sAsg (Dn.gName 1) (Dn.e2 Dn.addD (Dn.eVarW 1) (Dn.eC (.str " link"))))
    (Dn.sFor (Dn.iSeq (Dn.eVar 2)) (Dn.gName 3) (Dn.sAsg (Dn.gName 1) (Dn.e2 Dn.addD (Dn.e2 Dn.addD (Dn.eVarW 1) (Dn.eC (.str " "))) (Dn.e1 Dn.strD (Dn.eVarW 3)))))))
    (Dn.sRet (Dn.eVar 1))))
noncomputable def L_written : Dn.FF := Dn.noX (Dn.runF 1 4 b_L_written)
/-- _law_cell_at: 0 _law_script 1 _law_k -/
noncomputable def b_L_cell_at : Dn.SF :=
    (Dn.sSeq (Dn.sIf (Dn.asB (Dn.e2 Dn.ltD (Dn.eVarW 1) (Dn.e1 Dn.lenD (Dn.eVarW 0)))) (Dn.sRet (Dn.e2 Dn.ixD (Dn.eVarW 0) (Dn.eVarW 1))) Dn.sNx)
    (Dn.sRet (Dn.eC (.int 0))))
noncomputable def L_cell_at : Dn.FF := Dn.noX (Dn.runF 2 2 b_L_cell_at)
/-- _law_mixed: 0 _law_script 1 _law_k 2 _law_drawn_here -/
noncomputable def b_L_mixed : Dn.SF :=
    (Dn.sSeq (Dn.sAsg (Dn.gName 2) (Dn.e2 Dn.modD (Dn.e2 Dn.mulD (Dn.e2 Dn.addD (Dn.e2 Dn.addD (Dn.eCall L_cell_at (Dn.aCons (Dn.eVar 0) (Dn.aCons (Dn.eVar 1) Dn.aNil))) (Dn.e2 Dn.mulD (Dn.eC (.int 7919)) (Dn.eVarW 1))) (Dn.eC (.int 1))) (Dn.eC (.int 48271))) (Dn.eC (.int 2147483647))))
    (Dn.sRet (Dn.e2 Dn.modD (Dn.e2 Dn.addD (Dn.e2 Dn.addD (Dn.e2 Dn.mulD (Dn.eVarW 2) (Dn.eVarW 2)) (Dn.e2 Dn.mulD (Dn.eC (.int 7)) (Dn.eVarW 2))) (Dn.eVarW 1)) (Dn.eC (.int 2147483629)))))
noncomputable def L_mixed : Dn.FF := Dn.noX (Dn.runF 2 3 b_L_mixed)
/-- number_of: 0 word -/
noncomputable def b_P_number_of : Dn.SF :=
    (Dn.sSeq (Dn.sIf (Dn.tOrF (Dn.asB (Dn.e2 Dn.neD (Dn.e1 Dn.lenD (Dn.eVarW 0)) (Dn.eC (.int 1)))) (Dn.asB (Dn.e2 Dn.inN (Dn.eVarW 0) (Dn.eC (.str "0123456789"))))) (Dn.sExc "NoText") Dn.sNx)
    (Dn.sRet (Dn.e1 Dn.intD (Dn.eVarW 0))))
noncomputable def P_number_of : Dn.FF := Dn.runF 1 1 b_P_number_of
/-- is_number: 0 thing 1 low 2 high -/
noncomputable def b_P_is_number : Dn.SF :=
    (Dn.sRet (Dn.eAnd (Dn.e1 (Dn.isiD 0) (Dn.eVarW 0)) (Dn.eAnd (Dn.e1 Dn.notD (Dn.e1 (Dn.isiD 1) (Dn.eVarW 0))) (Dn.eChain Dn.leD Dn.leD (Dn.eVarW 1) (Dn.eVarW 0) (Dn.eVarW 2)))))
noncomputable def P_is_number : Dn.FF := Dn.noX (Dn.runF 3 3 b_P_is_number)
/-- come_to: 0 links 1 found 2 more 3 one 4 other 5 many -/
noncomputable def b_P_come_to : Dn.SF :=
    (Dn.sSeq (Dn.sOwn 1 (Dn.eLst (Dn.aCons (Dn.eC (.int 0)) Dn.aNil)))
    (Dn.sSeq (Dn.sAsg (Dn.gName 2) (Dn.eC (.bool true)))
    (Dn.sSeq (Dn.sWhile (Dn.asB (Dn.eVarW 2)) (Dn.sSeq (Dn.sAsg (Dn.gName 2) (Dn.eC (.bool false)))
    (Dn.sFor (Dn.iSeq (Dn.eVar 0)) (Dn.gTup [3, 4, 5]) (Dn.sIf (Dn.asB (Dn.e2 Dn.neD (Dn.e2 Dn.inD (Dn.eVarW 3) (Dn.eVarW 1)) (Dn.e2 Dn.inD (Dn.eVarW 4) (Dn.eVarW 1)))) (Dn.sSeq (Dn.sApp 1 (Dn.e2 Dn.subD (Dn.e2 Dn.addD (Dn.eVarW 3) (Dn.eVarW 4)) (Dn.e2 Dn.ixD (Dn.eLst (Dn.aCons (Dn.eVar 3) (Dn.aCons (Dn.eVar 4) Dn.aNil))) (Dn.e1 Dn.intD (Dn.e2 Dn.inD (Dn.eVarW 4) (Dn.eVarW 1))))))
    (Dn.sAsg (Dn.gName 2) (Dn.eC (.bool true)))) Dn.sNx))))
    (Dn.sRetO 1))))
noncomputable def P_come_to : Dn.FF := Dn.noX (Dn.runF 1 6 b_P_come_to)
/-- is_link: 0 thing 1 count -/
noncomputable def b_P_is_link : Dn.SF :=
    (Dn.sSeq (Dn.sIf (Dn.tOrF (Dn.tNotF (Dn.asB (Dn.e1 (Dn.isiD 2) (Dn.eVarW 0)))) (Dn.asB (Dn.e2 Dn.neD (Dn.e1 Dn.lenD (Dn.eVarW 0)) (Dn.eC (.int 3))))) (Dn.sRet (Dn.eC (.bool false))) Dn.sNx)
    (Dn.sSeq (Dn.sIf (Dn.tOrF (Dn.tNotF (Dn.asB (Dn.eCall P_is_number (Dn.aCons (Dn.e2 Dn.ixD (Dn.eVarW 0) (Dn.eC (.int 0))) (Dn.aCons (Dn.eC (.int 0)) (Dn.aCons (Dn.eVar 1) Dn.aNil)))))) (Dn.tNotF (Dn.asB (Dn.eCall P_is_number (Dn.aCons (Dn.e2 Dn.ixD (Dn.eVarW 0) (Dn.eC (.int 1))) (Dn.aCons (Dn.eC (.int 0)) (Dn.aCons (Dn.eVar 1) Dn.aNil))))))) (Dn.sRet (Dn.eC (.bool false))) Dn.sNx)
    (Dn.sRet (Dn.eAnd (Dn.e2 Dn.ltD (Dn.e2 Dn.ixD (Dn.eVarW 0) (Dn.eC (.int 0))) (Dn.e2 Dn.ixD (Dn.eVarW 0) (Dn.eC (.int 1)))) (Dn.eCall P_is_number (Dn.aCons (Dn.e2 Dn.ixD (Dn.eVarW 0) (Dn.eC (.int 2))) (Dn.aCons (Dn.eC (.int 1)) (Dn.aCons (Dn.eC (.int 4)) Dn.aNil))))))))
noncomputable def P_is_link : Dn.FF := Dn.noX (Dn.runF 2 2 b_P_is_link)
/-- is_yard: 0 thing 1 count 2 links 3 one 4 other 5 link -/
noncomputable def b_P_is_yard : Dn.SF :=
    (Dn.sSeq (Dn.sIf (Dn.tOrF (Dn.tNotF (Dn.asB (Dn.e1 (Dn.isiD 2) (Dn.eVarW 0)))) (Dn.tOrF (Dn.asB (Dn.e2 Dn.neD (Dn.e1 Dn.lenD (Dn.eVarW 0)) (Dn.eC (.int 2)))) (Dn.tNotF (Dn.asB (Dn.eCall P_is_number (Dn.aCons (Dn.e2 Dn.ixD (Dn.eVarW 0) (Dn.eC (.int 0))) (Dn.aCons (Dn.eC (.int 1)) (Dn.aCons (Dn.eC (.int 5)) Dn.aNil)))))))) (Dn.sRet (Dn.eC (.bool false))) Dn.sNx)
    (Dn.sSeq (Dn.sAsg (Dn.gTup [1, 2]) (Dn.eVar 0))
    (Dn.sSeq (Dn.sIf (Dn.tOrF (Dn.tNotF (Dn.asB (Dn.e1 (Dn.isiD 2) (Dn.eVarW 2)))) (Dn.tNotF (Dn.asB (Dn.e1 Dn.allD (Dn.eComp (Dn.iSeq (Dn.eVar 2)) (Dn.gName 5) Dn.tYesF (Dn.eCall P_is_link (Dn.aCons (Dn.eVar 5) (Dn.aCons (Dn.eVar 1) Dn.aNil))) [5]))))) (Dn.sRet (Dn.eC (.bool false))) Dn.sNx)
    (Dn.sSeq (Dn.sIf (Dn.tNotF (Dn.asB (Dn.e1 Dn.allD (Dn.eComp (Dn.iZip (Dn.eCut (Dn.eVarW 2) Dn.oNo (Dn.oInt (Dn.e1 Dn.negD (Dn.eC (.int 1))))) (Dn.eCut (Dn.eVarW 2) (Dn.oInt (Dn.eC (.int 1))) Dn.oNo)) (Dn.gTup [3, 4]) Dn.tYesF (Dn.e2 Dn.ltD (Dn.eCut (Dn.eVarW 3) Dn.oNo (Dn.oInt (Dn.eC (.int 2)))) (Dn.eCut (Dn.eVarW 4) Dn.oNo (Dn.oInt (Dn.eC (.int 2))))) [3, 4])))) (Dn.sRet (Dn.eC (.bool false))) Dn.sNx)
    (Dn.sRet (Dn.e2 Dn.eqD (Dn.e1 Dn.lenD (Dn.eCall P_come_to (Dn.aCons (Dn.eVar 2) Dn.aNil))) (Dn.e2 Dn.addD (Dn.eVarW 1) (Dn.eC (.int 1)))))))))
noncomputable def P_is_yard : Dn.FF := Dn.noX (Dn.runF 1 6 b_P_is_yard)
/-- yard_words: 0 yard 1 words 2 link 3 part -/
noncomputable def b_P_yard_words : Dn.SF :=
    (Dn.sSeq (Dn.sOwn 1 (Dn.eLst (Dn.aCons (Dn.eC (.str "yard")) (Dn.aCons (Dn.e1 Dn.strD (Dn.e2 Dn.ixD (Dn.eVarW 0) (Dn.eC (.int 0)))) Dn.aNil))))
    (Dn.sSeq (Dn.sFor (Dn.iSeq (Dn.e2 Dn.ixD (Dn.eVarW 0) (Dn.eC (.int 1)))) (Dn.gName 2) (Dn.sExt 1 (Dn.e2 Dn.catD (Dn.eLst (Dn.aCons (Dn.eC (.str "link")) Dn.aNil)) (Dn.eComp (Dn.iSeq (Dn.eVar 2)) (Dn.gName 3) Dn.tYesF (Dn.e1 Dn.strD (Dn.eVarW 3)) [3]))))
    (Dn.sRetO 1)))
noncomputable def P_yard_words : Dn.FF := Dn.noX (Dn.runF 1 4 b_P_yard_words)
/-- read: 0 text 1 words 2 links 3 at 4 found 5 word -/
noncomputable def b_P_read : Dn.SF :=
    (Dn.sSeq (Dn.sIf (Dn.tNotF (Dn.asB (Dn.e1 (Dn.isiD 3) (Dn.eVarW 0)))) (Dn.sExc "NoText") Dn.sNx)
    (Dn.sSeq (Dn.sAsg (Dn.gName 1) (Dn.eSplit (Dn.eVarW 0) (Dn.eC (.str " "))))
    (Dn.sSeq (Dn.sIf (Dn.asB (Dn.e2 Dn.neD (Dn.e2 Dn.modD (Dn.e1 Dn.lenD (Dn.eVarW 1)) (Dn.eC (.int 4))) (Dn.eC (.int 2)))) (Dn.sExc "NoText") Dn.sNx)
    (Dn.sSeq (Dn.sOwn 2 (Dn.eLst Dn.aNil))
    (Dn.sSeq (Dn.sFor (Dn.iRng3 (Dn.eC (.int 2)) (Dn.e1 Dn.lenD (Dn.eVarW 1)) (Dn.eC (.int 4))) (Dn.gName 3) (Dn.sApp 2 (Dn.e1 Dn.tupD (Dn.eCompX (Dn.iSeq (Dn.eCut (Dn.eVarW 1) (Dn.oInt (Dn.e2 Dn.addD (Dn.eVarW 3) (Dn.eC (.int 1)))) (Dn.oInt (Dn.e2 Dn.addD (Dn.eVarW 3) (Dn.eC (.int 4)))))) (Dn.gName 5) Dn.tYesF (Dn.eCall P_number_of (Dn.aCons (Dn.eVar 5) Dn.aNil)) [5]))))
    (Dn.sSeq (Dn.sAsg (Dn.gName 4) (Dn.eTup (Dn.aCons (Dn.eCall P_number_of (Dn.aCons (Dn.e2 Dn.ixD (Dn.eVarW 1) (Dn.eC (.int 1))) Dn.aNil)) (Dn.aCons (Dn.e1 Dn.tupD (Dn.eVarW 2)) Dn.aNil))))
    (Dn.sSeq (Dn.sIf (Dn.tOrF (Dn.tNotF (Dn.asB (Dn.eCall P_is_yard (Dn.aCons (Dn.eVar 4) Dn.aNil)))) (Dn.asB (Dn.e2 Dn.neD (Dn.eJoin2 (Dn.eC (.str " ")) (Dn.eCall P_yard_words (Dn.aCons (Dn.eVar 4) Dn.aNil))) (Dn.eVarW 0)))) (Dn.sExc "NoText") Dn.sNx)
    (Dn.sRet (Dn.eVar 4)))))))))
noncomputable def P_read : Dn.FF := Dn.runF 1 6 b_P_read
/-- _law_found: 0 _law_text 1 _law_found_here 2 e 3 _law_some 4 _law_good -/
noncomputable def b_L_found : Dn.SF :=
    (Dn.sSeq (Dn.sTry (Dn.sAsg (Dn.gName 1) (Dn.eCall P_read (Dn.aCons (Dn.eVar 0) Dn.aNil))) "NoText" .none)
    (Dn.sRet (Dn.e2 Dn.ixD (Dn.eLst (Dn.aCons (Dn.eVar 1) (Dn.aCons (Dn.eTup Dn.aNil) Dn.aNil))) (Dn.e1 Dn.intD (Dn.e2 Dn.isD (Dn.eVarW 1) (Dn.eC .none))))))
noncomputable def L_found : Dn.FF := Dn.noX (Dn.runF 1 5 b_L_found)
/-- _law_changed: 0 _law_text 1 _law_number_here 2 _law_words 3 _law_at 4 _law_place 5 _law_kind 6 _law_sign 7 _law_swapped 8 _law_some -/
noncomputable def b_L_changed : Dn.SF :=
    (Dn.sSeq (Dn.sAsg (Dn.gName 2) (Dn.eSplit (Dn.eVarW 0) (Dn.eC (.str " "))))
    (Dn.sSeq (Dn.sAsg (Dn.gName 3) (Dn.e2 Dn.modD (Dn.e2 Dn.fdivD (Dn.eVarW 1) (Dn.eC (.int 8))) (Dn.e1 Dn.lenD (Dn.eVarW 2))))
    (Dn.sSeq (Dn.sAsg (Dn.gName 4) (Dn.e2 Dn.modD (Dn.e2 Dn.fdivD (Dn.eVarW 1) (Dn.eC (.int 8))) (Dn.e2 Dn.addD (Dn.e1 Dn.lenD (Dn.eVarW 0)) (Dn.eC (.int 1)))))
    (Dn.sSeq (Dn.sAsg (Dn.gName 5) (Dn.e2 Dn.modD (Dn.eVarW 1) (Dn.eC (.int 8))))
    (Dn.sSeq (Dn.sIf (Dn.asB (Dn.e2 Dn.eqD (Dn.eVarW 5) (Dn.eC (.int 0)))) (Dn.sRet (Dn.e2 Dn.addD (Dn.eCut (Dn.eVarW 0) Dn.oNo (Dn.oInt (Dn.eVarW 4))) (Dn.eCut (Dn.eVarW 0) (Dn.oInt (Dn.e2 Dn.addD (Dn.eVarW 4) (Dn.eC (.int 1)))) Dn.oNo))) Dn.sNx)
    (Dn.sSeq (Dn.sIf (Dn.asB (Dn.e2 Dn.ltD (Dn.eVarW 5) (Dn.eC (.int 3)))) (Dn.sSeq (Dn.sAsg (Dn.gName 6) (Dn.e2 Dn.ixD (Dn.eC (.str " 0123456-_y\n\t")) (Dn.e2 Dn.modD (Dn.e2 Dn.fdivD (Dn.eVarW 1) (Dn.eC (.int 7))) (Dn.eC (.int 13)))))
    (Dn.sRet (Dn.e2 Dn.addD (Dn.e2 Dn.addD (Dn.eCut (Dn.eVarW 0) Dn.oNo (Dn.oInt (Dn.eVarW 4))) (Dn.eVarW 6)) (Dn.eCut (Dn.eVarW 0) (Dn.oInt (Dn.e2 Dn.subD (Dn.e2 Dn.addD (Dn.eVarW 4) (Dn.eVarW 5)) (Dn.eC (.int 1)))) Dn.oNo)))) Dn.sNx)
    (Dn.sSeq (Dn.sIf (Dn.asB (Dn.e2 Dn.eqD (Dn.eVarW 5) (Dn.eC (.int 3)))) (Dn.sRet (Dn.eJoin2 (Dn.eC (.str " ")) (Dn.e2 Dn.addD (Dn.eCut (Dn.eVarW 2) Dn.oNo (Dn.oInt (Dn.eVarW 3))) (Dn.eCut (Dn.eVarW 2) (Dn.oInt (Dn.e2 Dn.addD (Dn.eVarW 3) (Dn.eC (.int 1)))) Dn.oNo)))) Dn.sNx)
    (Dn.sSeq (Dn.sIf (Dn.asB (Dn.e2 Dn.eqD (Dn.eVarW 5) (Dn.eC (.int 4)))) (Dn.sRet (Dn.eJoin2 (Dn.eC (.str " ")) (Dn.e2 Dn.addD (Dn.e2 Dn.addD (Dn.eCut (Dn.eVarW 2) Dn.oNo (Dn.oInt (Dn.eVarW 3))) (Dn.eCut (Dn.eVarW 2) (Dn.oInt (Dn.eVarW 3)) (Dn.oInt (Dn.e2 Dn.addD (Dn.eVarW 3) (Dn.eC (.int 1)))))) (Dn.eCut (Dn.eVarW 2) (Dn.oInt (Dn.eVarW 3)) Dn.oNo)))) Dn.sNx)
    (Dn.sSeq (Dn.sIf (Dn.asB (Dn.e2 Dn.eqD (Dn.eVarW 5) (Dn.eC (.int 5)))) (Dn.sSeq (Dn.sAsg (Dn.gName 7) (Dn.e2 Dn.addD (Dn.eCut (Dn.eVarW 2) (Dn.oInt (Dn.e2 Dn.addD (Dn.eVarW 3) (Dn.eC (.int 1)))) (Dn.oInt (Dn.e2 Dn.addD (Dn.eVarW 3) (Dn.eC (.int 2))))) (Dn.eCut (Dn.eVarW 2) (Dn.oInt (Dn.eVarW 3)) (Dn.oInt (Dn.e2 Dn.addD (Dn.eVarW 3) (Dn.eC (.int 1)))))))
    (Dn.sRet (Dn.eJoin2 (Dn.eC (.str " ")) (Dn.e2 Dn.addD (Dn.e2 Dn.addD (Dn.eCut (Dn.eVarW 2) Dn.oNo (Dn.oInt (Dn.eVarW 3))) (Dn.eVarW 7)) (Dn.eCut (Dn.eVarW 2) (Dn.oInt (Dn.e2 Dn.addD (Dn.eVarW 3) (Dn.eC (.int 2)))) Dn.oNo))))) Dn.sNx)
    (Dn.sSeq (Dn.sAsg (Dn.gName 8) (Dn.eSplit (Dn.eC (.str "yard link 0 1 2 3 4 5 6 00 01 -1 a")) (Dn.eC (.str " "))))
    (Dn.sRet (Dn.eJoin2 (Dn.eC (.str " ")) (Dn.e2 Dn.addD (Dn.e2 Dn.addD (Dn.eCut (Dn.eVarW 2) Dn.oNo (Dn.oInt (Dn.eVarW 3))) (Dn.eLst (Dn.aCons (Dn.e2 Dn.ixD (Dn.eVarW 8) (Dn.e2 Dn.modD (Dn.e2 Dn.fdivD (Dn.eVarW 1) (Dn.eC (.int 7))) (Dn.eC (.int 13)))) Dn.aNil))) (Dn.eCut (Dn.eVarW 2) (Dn.oInt (Dn.e2 Dn.addD (Dn.eVarW 3) (Dn.eC (.int 1)))) Dn.oNo))))))))))))))
noncomputable def L_changed : Dn.FF := Dn.noX (Dn.runF 2 9 b_L_changed)
/-- _law_number: 0 _law_thing 1 _law_low 2 _law_high -/
noncomputable def b_L_number : Dn.SF :=
    (Dn.sRet (Dn.eAnd (Dn.e1 (Dn.isiD 0) (Dn.eVarW 0)) (Dn.eAnd (Dn.e1 Dn.notD (Dn.e1 (Dn.isiD 1) (Dn.eVarW 0))) (Dn.eChain Dn.leD Dn.leD (Dn.eVarW 1) (Dn.eVarW 0) (Dn.eVarW 2)))))
noncomputable def L_number : Dn.FF := Dn.noX (Dn.runF 3 3 b_L_number)
/-- _law_is_link: 0 _law_thing 1 _law_count -/
noncomputable def b_L_is_link : Dn.SF :=
    (Dn.sSeq (Dn.sIf (Dn.tOrF (Dn.tNotF (Dn.asB (Dn.e1 (Dn.isiD 2) (Dn.eVarW 0)))) (Dn.asB (Dn.e2 Dn.neD (Dn.e1 Dn.lenD (Dn.eVarW 0)) (Dn.eC (.int 3))))) (Dn.sRet (Dn.eC (.bool false))) Dn.sNx)
    (Dn.sSeq (Dn.sIf (Dn.tOrF (Dn.tNotF (Dn.asB (Dn.eCall L_number (Dn.aCons (Dn.e2 Dn.ixD (Dn.eVarW 0) (Dn.eC (.int 0))) (Dn.aCons (Dn.eC (.int 0)) (Dn.aCons (Dn.eVar 1) Dn.aNil)))))) (Dn.tNotF (Dn.asB (Dn.eCall L_number (Dn.aCons (Dn.e2 Dn.ixD (Dn.eVarW 0) (Dn.eC (.int 1))) (Dn.aCons (Dn.eC (.int 0)) (Dn.aCons (Dn.eVar 1) Dn.aNil))))))) (Dn.sRet (Dn.eC (.bool false))) Dn.sNx)
    (Dn.sRet (Dn.eAnd (Dn.e2 Dn.ltD (Dn.e2 Dn.ixD (Dn.eVarW 0) (Dn.eC (.int 0))) (Dn.e2 Dn.ixD (Dn.eVarW 0) (Dn.eC (.int 1)))) (Dn.eCall L_number (Dn.aCons (Dn.e2 Dn.ixD (Dn.eVarW 0) (Dn.eC (.int 2))) (Dn.aCons (Dn.eC (.int 1)) (Dn.aCons (Dn.eC (.int 4)) Dn.aNil))))))))
noncomputable def L_is_link : Dn.FF := Dn.noX (Dn.runF 2 2 b_L_is_link)
/-- _law_is_yard: 0 _law_thing 1 _law_pairs 2 _law_k 3 _law_met 4 _law_low 5 _law_high 6 _law_link -/
noncomputable def b_L_is_yard : Dn.SF :=
    (Dn.sSeq (Dn.sIf (Dn.tOrF (Dn.tNotF (Dn.asB (Dn.e1 (Dn.isiD 2) (Dn.eVarW 0)))) (Dn.tOrF (Dn.asB (Dn.e2 Dn.neD (Dn.e1 Dn.lenD (Dn.eVarW 0)) (Dn.eC (.int 2)))) (Dn.tNotF (Dn.asB (Dn.eCall L_number (Dn.aCons (Dn.e2 Dn.ixD (Dn.eVarW 0) (Dn.eC (.int 0))) (Dn.aCons (Dn.eC (.int 1)) (Dn.aCons (Dn.eC (.int 5)) Dn.aNil)))))))) (Dn.sRet (Dn.eC (.bool false))) Dn.sNx)
    (Dn.sSeq (Dn.sIf (Dn.tOrF (Dn.tNotF (Dn.asB (Dn.e1 (Dn.isiD 2) (Dn.e2 Dn.ixD (Dn.eVarW 0) (Dn.eC (.int 1)))))) (Dn.asB (Dn.e2 Dn.neD (Dn.eComp (Dn.iSeq (Dn.e2 Dn.ixD (Dn.eVarW 0) (Dn.eC (.int 1)))) (Dn.gName 6) (Dn.tNotF (Dn.asB (Dn.eCall L_is_link (Dn.aCons (Dn.eVar 6) (Dn.aCons (Dn.e2 Dn.ixD (Dn.eVarW 0) (Dn.eC (.int 0))) Dn.aNil))))) (Dn.eVar 6) [6]) (Dn.eLst Dn.aNil)))) (Dn.sRet (Dn.eC (.bool false))) Dn.sNx)
    (Dn.sSeq (Dn.sAsg (Dn.gName 1) (Dn.eComp (Dn.iSeq (Dn.e2 Dn.ixD (Dn.eVarW 0) (Dn.eC (.int 1)))) (Dn.gName 6) Dn.tYesF (Dn.eCut (Dn.eVarW 6) Dn.oNo (Dn.oInt (Dn.eC (.int 2)))) [6]))
    (Dn.sSeq (Dn.sIf (Dn.asB (Dn.e2 Dn.neD (Dn.eComp (Dn.iRng2 (Dn.eC (.int 1)) (Dn.e1 Dn.lenD (Dn.eVarW 1))) (Dn.gName 2) (Dn.asB (Dn.e2 Dn.geD (Dn.e2 Dn.ixD (Dn.eVarW 1) (Dn.e2 Dn.subD (Dn.eVarW 2) (Dn.eC (.int 1)))) (Dn.e2 Dn.ixD (Dn.eVarW 1) (Dn.eVarW 2)))) (Dn.eVar 2) [2]) (Dn.eLst Dn.aNil))) (Dn.sRet (Dn.eC (.bool false))) Dn.sNx)
    (Dn.sSeq (Dn.sOwn 3 (Dn.eLst (Dn.aCons (Dn.eC (.int 0)) Dn.aNil)))
    (Dn.sSeq (Dn.sFor (Dn.iRng1 (Dn.e2 Dn.ixD (Dn.eVarW 0) (Dn.eC (.int 0)))) (Dn.gName 2) (Dn.sFor (Dn.iSeq (Dn.eVar 1)) (Dn.gTup [4, 5]) (Dn.sSeq (Dn.sIf (Dn.tAndF (Dn.asB (Dn.e2 Dn.inD (Dn.eVarW 4) (Dn.eVarW 3))) (Dn.asB (Dn.e2 Dn.inN (Dn.eVarW 5) (Dn.eVarW 3)))) (Dn.sApp 3 (Dn.eVar 5)) Dn.sNx)
    (Dn.sIf (Dn.tAndF (Dn.asB (Dn.e2 Dn.inD (Dn.eVarW 5) (Dn.eVarW 3))) (Dn.asB (Dn.e2 Dn.inN (Dn.eVarW 4) (Dn.eVarW 3)))) (Dn.sApp 3 (Dn.eVar 4)) Dn.sNx))))
    (Dn.sRet (Dn.e2 Dn.eqD (Dn.e1 Dn.lenD (Dn.eVarW 3)) (Dn.e2 Dn.addD (Dn.e2 Dn.ixD (Dn.eVarW 0) (Dn.eC (.int 0))) (Dn.eC (.int 1)))))))))))
noncomputable def L_is_yard : Dn.FF := Dn.noX (Dn.runF 1 7 b_L_is_yard)
/-- law: 0 _law_script 1 _law_yard_here 2 _law_first 3 _law_number_here 4 _law_text 5 _law_k 6 _law_found_here -/
noncomputable def b_P_law : Dn.SF :=
    (Dn.sSeq (Dn.sAsg (Dn.gName 1) (Dn.eCall L_yard (Dn.aCons (Dn.eCall L_mixed (Dn.aCons (Dn.eVar 0) (Dn.aCons (Dn.eC (.int 0)) Dn.aNil))) (Dn.aCons (Dn.eC (.int 5)) (Dn.aCons (Dn.eC (.int 4)) Dn.aNil)))))
    (Dn.sSeq (Dn.sAsg (Dn.gName 2) (Dn.eCall L_written (Dn.aCons (Dn.eVar 1) Dn.aNil)))
    (Dn.sSeq (Dn.sAsg (Dn.gName 3) (Dn.eCall L_mixed (Dn.aCons (Dn.eVar 0) (Dn.aCons (Dn.eC (.int 1)) Dn.aNil))))
    (Dn.sSeq (Dn.sAsg (Dn.gName 4) (Dn.eVar 2))
    (Dn.sSeq (Dn.sFor (Dn.iRng1 (Dn.e2 Dn.mulD (Dn.e2 Dn.modD (Dn.eVarW 3) (Dn.eC (.int 3))) (Dn.e2 Dn.addD (Dn.eC (.int 1)) (Dn.e2 Dn.modD (Dn.e2 Dn.fdivD (Dn.eVarW 3) (Dn.eC (.int 3))) (Dn.eC (.int 2)))))) (Dn.gName 5) (Dn.sAsg (Dn.gName 4) (Dn.eCall L_changed (Dn.aCons (Dn.eVar 4) (Dn.aCons (Dn.eCall L_drawn (Dn.aCons (Dn.eVar 3) (Dn.aCons (Dn.eVar 5) Dn.aNil))) Dn.aNil)))))
    (Dn.sSeq (Dn.sAsg (Dn.gName 6) (Dn.eCall L_found (Dn.aCons (Dn.eVar 4) Dn.aNil)))
    (Dn.sSeq (Dn.sIf (Dn.asB (Dn.e2 Dn.eqD (Dn.eVarW 4) (Dn.eVarW 2))) (Dn.sRet (Dn.eAnd (Dn.e2 Dn.eqD (Dn.eVarW 6) (Dn.eVarW 1)) (Dn.eCall L_is_yard (Dn.aCons (Dn.eVar 6) Dn.aNil)))) Dn.sNx)
    (Dn.sRet (Dn.eOr (Dn.e2 Dn.isD (Dn.eVarW 6) (Dn.eC .none)) (Dn.eAnd (Dn.eCall L_is_yard (Dn.aCons (Dn.eVar 6) Dn.aNil)) (Dn.e2 Dn.eqD (Dn.eCall L_written (Dn.aCons (Dn.eVar 6) Dn.aNil)) (Dn.eVarW 4))))))))))))
noncomputable def P_law : Dn.FF := Dn.noX (Dn.runF 1 7 b_P_law)
/-- _law_grains: 0 _law_number_here 1 _law_count 2 _law_most 3 _law_k -/
noncomputable def b_L_grains : Dn.SF :=
    (Dn.sRet (Dn.e1 Dn.tupD (Dn.eComp (Dn.iRng1 (Dn.eVarW 1)) (Dn.gName 3) Dn.tYesF (Dn.e2 Dn.modD (Dn.eCall L_drawn (Dn.aCons (Dn.eVar 0) (Dn.aCons (Dn.e2 Dn.addD (Dn.eC (.int 50)) (Dn.eVarW 3)) Dn.aNil))) (Dn.e2 Dn.addD (Dn.eVarW 2) (Dn.eC (.int 1)))) [3])))
noncomputable def L_grains : Dn.FF := Dn.noX (Dn.runF 3 4 b_L_grains)
/-- written: 0 yard -/
noncomputable def b_P_written : Dn.SF :=
    (Dn.sSeq (Dn.sIf (Dn.tNotF (Dn.asB (Dn.eCall P_is_yard (Dn.aCons (Dn.eVar 0) Dn.aNil)))) (Dn.sExc "NoYard") Dn.sNx)
    (Dn.sRet (Dn.eJoin2 (Dn.eC (.str " ")) (Dn.eCall P_yard_words (Dn.aCons (Dn.eVar 0) Dn.aNil)))))
noncomputable def P_written : Dn.FF := Dn.runF 1 1 b_P_written
/-- _law_odd: 0 _law_number_here 1 _law_some -/
noncomputable def b_L_odd : Dn.SF :=
    (Dn.sSeq (Dn.sAsg (Dn.gName 1) (Dn.eLst (Dn.aCons (Dn.e1 Dn.negD (Dn.eC (.int 1))) (Dn.aCons (Dn.eC (.int 0)) (Dn.aCons (Dn.eC (.int 1)) (Dn.aCons (Dn.eC (.int 3)) (Dn.aCons (Dn.eC (.int 4)) (Dn.aCons (Dn.eC (.int 5)) (Dn.aCons (Dn.eC (.int 6)) (Dn.aCons (Dn.eC (.bool true)) (Dn.aCons (Dn.eC (.bool false)) (Dn.aCons (Dn.eC .none) (Dn.aCons (Dn.eC (.str "")) (Dn.aCons (Dn.eC (.str "1")) (Dn.aCons (Dn.eTup Dn.aNil) (Dn.aCons (Dn.eLst Dn.aNil) (Dn.aCons (Dn.eTup (Dn.aCons (Dn.eC (.int 0)) (Dn.aCons (Dn.eC (.int 1)) (Dn.aCons (Dn.eC (.int 1)) Dn.aNil)))) (Dn.aCons (Dn.eTup (Dn.aCons (Dn.eC (.int 1)) (Dn.aCons (Dn.eC (.int 0)) (Dn.aCons (Dn.eC (.int 1)) Dn.aNil)))) (Dn.aCons (Dn.eTup (Dn.aCons (Dn.eC (.int 0)) (Dn.aCons (Dn.eC (.int 1)) Dn.aNil))) (Dn.aCons (Dn.eTup (Dn.aCons (Dn.eTup (Dn.aCons (Dn.eC (.int 0)) (Dn.aCons (Dn.eC (.int 1)) (Dn.aCons (Dn.eC (.int 1)) Dn.aNil)))) Dn.aNil)) Dn.aNil))))))))))))))))))))
    (Dn.sRet (Dn.e2 Dn.ixD (Dn.eVarW 1) (Dn.e2 Dn.modD (Dn.eVarW 0) (Dn.eC (.int 18))))))
noncomputable def L_odd : Dn.FF := Dn.noX (Dn.runF 1 2 b_L_odd)
/-- _law_spoilt: 0 _law_thing 1 _law_number_here 2 _law_deep 3 _law_at 4 _law_part -/
noncomputable def b_L_spoilt (F : Dn.FF) : Dn.SF :=
    (Dn.sSeq (Dn.sIf (Dn.tAndF (Dn.asB (Dn.e2 Dn.gtD (Dn.eVarW 2) (Dn.eC (.int 0)))) (Dn.tAndF (Dn.asB (Dn.e1 (Dn.isiD 2) (Dn.eVarW 0))) (Dn.tAndF (Dn.asB (Dn.e2 Dn.gtD (Dn.e1 Dn.lenD (Dn.eVarW 0)) (Dn.eC (.int 0)))) (Dn.asB (Dn.e2 Dn.gtD (Dn.e2 Dn.modD (Dn.eVarW 1) (Dn.eC (.int 6))) (Dn.eC (.int 0))))))) (Dn.sSeq (Dn.sAsg (Dn.gName 3) (Dn.e2 Dn.modD (Dn.e2 Dn.fdivD (Dn.eVarW 1) (Dn.eC (.int 6))) (Dn.e1 Dn.lenD (Dn.eVarW 0))))
    (Dn.sSeq (Dn.sAsg (Dn.gName 4) (Dn.eCall (Dn.noX F) (Dn.aCons (Dn.e2 Dn.ixD (Dn.eVarW 0) (Dn.eVarW 3)) (Dn.aCons (Dn.e2 Dn.fdivD (Dn.e2 Dn.fdivD (Dn.eVarW 1) (Dn.eC (.int 6))) (Dn.e1 Dn.lenD (Dn.eVarW 0))) (Dn.aCons (Dn.e2 Dn.subD (Dn.eVarW 2) (Dn.eC (.int 1))) Dn.aNil)))))
    (Dn.sRet (Dn.e2 Dn.addD (Dn.e2 Dn.addD (Dn.eCut (Dn.eVarW 0) Dn.oNo (Dn.oInt (Dn.eVarW 3))) (Dn.eTup (Dn.aCons (Dn.eVar 4) Dn.aNil))) (Dn.eCut (Dn.eVarW 0) (Dn.oInt (Dn.e2 Dn.addD (Dn.eVarW 3) (Dn.eC (.int 1)))) Dn.oNo))))) Dn.sNx)
    (Dn.sSeq (Dn.sIf (Dn.tAndF (Dn.asB (Dn.e1 (Dn.isiD 2) (Dn.eVarW 0))) (Dn.tAndF (Dn.asB (Dn.e2 Dn.gtD (Dn.e1 Dn.lenD (Dn.eVarW 0)) (Dn.eC (.int 0)))) (Dn.asB (Dn.e2 Dn.eqD (Dn.e2 Dn.modD (Dn.e2 Dn.fdivD (Dn.eVarW 1) (Dn.eC (.int 6))) (Dn.eC (.int 2))) (Dn.eC (.int 0)))))) (Dn.sRet (Dn.e2 Dn.ixD (Dn.eLst (Dn.aCons (Dn.e1 Dn.lstD (Dn.eVarW 0)) (Dn.aCons (Dn.eCut (Dn.eVarW 0) Dn.oNo (Dn.oInt (Dn.e1 Dn.negD (Dn.eC (.int 1))))) (Dn.aCons (Dn.e2 Dn.addD (Dn.eVarW 0) (Dn.eCut (Dn.eVarW 0) (Dn.oInt (Dn.e1 Dn.negD (Dn.eC (.int 1)))) Dn.oNo)) (Dn.aCons (Dn.eCut (Dn.eVarW 0) (Dn.oInt (Dn.eC (.int 1))) Dn.oNo) (Dn.aCons (Dn.e1 Dn.revD (Dn.eVarW 0)) (Dn.aCons (Dn.e2 Dn.mulD (Dn.eVarW 0) (Dn.eC (.int 2))) Dn.aNil))))))) (Dn.e2 Dn.modD (Dn.e2 Dn.fdivD (Dn.eVarW 1) (Dn.eC (.int 12))) (Dn.eC (.int 6))))) Dn.sNx)
    (Dn.sSeq (Dn.sIf (Dn.tAndF (Dn.asB (Dn.e1 (Dn.isiD 0) (Dn.eVarW 0))) (Dn.asB (Dn.e2 Dn.eqD (Dn.e2 Dn.modD (Dn.e2 Dn.fdivD (Dn.eVarW 1) (Dn.eC (.int 6))) (Dn.eC (.int 2))) (Dn.eC (.int 0))))) (Dn.sRet (Dn.e2 Dn.ixD (Dn.eLst (Dn.aCons (Dn.e1 Dn.strD (Dn.eVarW 0)) (Dn.aCons (Dn.e1 Dn.negD (Dn.eVarW 0)) (Dn.aCons (Dn.e2 Dn.addD (Dn.eVarW 0) (Dn.eC (.int 1))) (Dn.aCons (Dn.e2 Dn.eqD (Dn.eVarW 0) (Dn.eC (.int 1))) (Dn.aCons (Dn.e2 Dn.subD (Dn.eVarW 0) (Dn.eC (.int 1))) Dn.aNil)))))) (Dn.e2 Dn.modD (Dn.e2 Dn.fdivD (Dn.eVarW 1) (Dn.eC (.int 12))) (Dn.eC (.int 5))))) Dn.sNx)
    (Dn.sRet (Dn.eCall L_odd (Dn.aCons (Dn.e2 Dn.fdivD (Dn.eVarW 1) (Dn.eC (.int 6))) Dn.aNil))))))
noncomputable def L_spoilt : Nat → Dn.FF
  | 0 => fun _ => none
  | d + 1 => Dn.noX (Dn.runF 3 5 (b_L_spoilt (L_spoilt d)))
theorem L_spoilt_noX : ∀ d, Dn.noX (L_spoilt d) = L_spoilt d
  | 0 => rfl
  | _ + 1 => Dn.noX_noX _
/-- _law_refused_by_base: 0 _law_thing 1 e 2 _law_some -/
noncomputable def b_L_refused_by_base : Dn.SF :=
    (Dn.sSeq (Dn.sTry (Dn.sEx (Dn.eCall P_written (Dn.aCons (Dn.eVar 0) Dn.aNil))) "NoYard" (.bool true))
    (Dn.sRet (Dn.eC (.bool false))))
noncomputable def L_refused_by_base : Dn.FF := Dn.noX (Dn.runF 1 3 b_L_refused_by_base)
/-- _law_refused: 0 _law_thing -/
noncomputable def b_L_refused : Dn.SF :=
    (Dn.sSeq (Dn.sTry (Dn.sEx (Dn.eCall P_written (Dn.aCons (Dn.eVar 0) Dn.aNil))) "NoYard" (.bool true))
    (Dn.sRet (Dn.eC (.bool false))))
noncomputable def L_refused : Dn.FF := Dn.noX (Dn.runF 1 1 b_L_refused)
/-- _law_same: 0 _law_found 1 _law_due -/
noncomputable def b_L_same : Dn.SF :=
    (Dn.sRet (Dn.eAnd (Dn.e1 (Dn.isiD 1) (Dn.eVarW 0)) (Dn.e2 Dn.eqD (Dn.eVarW 0) (Dn.eVarW 1))))
noncomputable def L_same : Dn.FF := Dn.noX (Dn.runF 2 2 b_L_same)
/-- sizes: 0 yard 1 found 2 place 3 low 4 high 5 many -/
noncomputable def b_P_sizes : Dn.SF :=
    (Dn.sSeq (Dn.sOwn 1 (Dn.eLst Dn.aNil))
    (Dn.sSeq (Dn.sFor (Dn.iRng2 (Dn.eC (.int 1)) (Dn.e2 Dn.addD (Dn.e2 Dn.ixD (Dn.eVarW 0) (Dn.eC (.int 0))) (Dn.eC (.int 1)))) (Dn.gName 2) (Dn.sApp 1 (Dn.e1 Dn.sumD (Dn.eComp (Dn.iSeq (Dn.e2 Dn.ixD (Dn.eVarW 0) (Dn.eC (.int 1)))) (Dn.gTup [3, 4, 5]) (Dn.asB (Dn.e2 Dn.inD (Dn.eVarW 2) (Dn.eTup (Dn.aCons (Dn.eVar 3) (Dn.aCons (Dn.eVar 4) Dn.aNil))))) (Dn.eVar 5) [3, 4, 5]))))
    (Dn.sRet (Dn.e1 Dn.tupD (Dn.eVarW 1)))))
noncomputable def P_sizes : Dn.FF := Dn.noX (Dn.runF 1 6 b_P_sizes)
/-- are_grains: 0 thing 1 yard 2 part -/
noncomputable def b_P_are_grains : Dn.SF :=
    (Dn.sSeq (Dn.sIf (Dn.tOrF (Dn.tNotF (Dn.asB (Dn.e1 (Dn.isiD 2) (Dn.eVarW 0)))) (Dn.asB (Dn.e2 Dn.neD (Dn.e1 Dn.lenD (Dn.eVarW 0)) (Dn.e2 Dn.ixD (Dn.eVarW 1) (Dn.eC (.int 0)))))) (Dn.sRet (Dn.eC (.bool false))) Dn.sNx)
    (Dn.sRet (Dn.e1 Dn.allD (Dn.eComp (Dn.iSeq (Dn.eVar 0)) (Dn.gName 2) Dn.tYesF (Dn.eAnd (Dn.e1 (Dn.isiD 0) (Dn.eVarW 2)) (Dn.eAnd (Dn.e1 Dn.notD (Dn.e1 (Dn.isiD 1) (Dn.eVarW 2))) (Dn.e2 Dn.geD (Dn.eVarW 2) (Dn.eC (.int 0))))) [2]))))
noncomputable def P_are_grains : Dn.FF := Dn.noX (Dn.runF 2 3 b_P_are_grains)
/-- _law_between: 0 _law_yard_here 1 _law_one 2 _law_other 3 _law_low 4 _law_high 5 _law_many -/
noncomputable def b_L_between : Dn.SF :=
    (Dn.sRet (Dn.e1 Dn.sumD (Dn.eComp (Dn.iSeq (Dn.e2 Dn.ixD (Dn.eVarW 0) (Dn.eC (.int 1)))) (Dn.gTup [3, 4, 5]) (Dn.tAndF (Dn.asB (Dn.e2 Dn.neD (Dn.eVarW 3) (Dn.eVarW 4))) (Dn.asB (Dn.e2 Dn.inD (Dn.eTup (Dn.aCons (Dn.eVar 3) (Dn.aCons (Dn.eVar 4) Dn.aNil))) (Dn.eTup (Dn.aCons (Dn.eTup (Dn.aCons (Dn.eVar 1) (Dn.aCons (Dn.eVar 2) Dn.aNil))) (Dn.aCons (Dn.eTup (Dn.aCons (Dn.eVar 2) (Dn.aCons (Dn.eVar 1) Dn.aNil))) Dn.aNil)))))) (Dn.eVar 5) [3, 4, 5])))
noncomputable def L_between : Dn.FF := Dn.noX (Dn.runF 3 6 b_L_between)
/-- _law_sizes: 0 _law_yard_here 1 _law_found 2 _law_place 3 _law_other -/
noncomputable def b_L_sizes : Dn.SF :=
    (Dn.sSeq (Dn.sOwn 1 (Dn.eLst Dn.aNil))
    (Dn.sSeq (Dn.sFor (Dn.iRng2 (Dn.eC (.int 1)) (Dn.e2 Dn.addD (Dn.e2 Dn.ixD (Dn.eVarW 0) (Dn.eC (.int 0))) (Dn.eC (.int 1)))) (Dn.gName 2) (Dn.sApp 1 (Dn.e1 Dn.sumD (Dn.eComp (Dn.iRng1 (Dn.e2 Dn.addD (Dn.e2 Dn.ixD (Dn.eVarW 0) (Dn.eC (.int 0))) (Dn.eC (.int 1)))) (Dn.gName 3) Dn.tYesF (Dn.eCall L_between (Dn.aCons (Dn.eVar 0) (Dn.aCons (Dn.eVar 2) (Dn.aCons (Dn.eVar 3) Dn.aNil)))) [3]))))
    (Dn.sRetO 1)))
noncomputable def L_sizes : Dn.FF := Dn.noX (Dn.runF 1 4 b_L_sizes)
/-- between: 0 yard 1 one 2 other 3 low 4 high 5 many -/
noncomputable def b_P_between : Dn.SF :=
    (Dn.sSeq (Dn.sFor (Dn.iSeq (Dn.e2 Dn.ixD (Dn.eVarW 0) (Dn.eC (.int 1)))) (Dn.gTup [3, 4, 5]) (Dn.sIf (Dn.asB (Dn.e2 Dn.eqD (Dn.eTup (Dn.aCons (Dn.eVar 3) (Dn.aCons (Dn.eVar 4) Dn.aNil))) (Dn.eTup (Dn.aCons (Dn.e2 Dn.min2D (Dn.eVarW 1) (Dn.eVarW 2)) (Dn.aCons (Dn.e2 Dn.max2D (Dn.eVarW 1) (Dn.eVarW 2)) Dn.aNil))))) (Dn.sRet (Dn.eVar 5)) Dn.sNx))
    (Dn.sRet (Dn.eC (.int 0))))
noncomputable def P_between : Dn.FF := Dn.noX (Dn.runF 3 6 b_P_between)
/-- chosen: 0 links 1 many 2 found 3 at 4 rest -/
noncomputable def b_P_chosen (F : Dn.FF) : Dn.SF :=
    (Dn.sSeq (Dn.sIf (Dn.asB (Dn.e2 Dn.eqD (Dn.eVarW 1) (Dn.eC (.int 0)))) (Dn.sRet (Dn.eLst (Dn.aCons (Dn.eTup Dn.aNil) Dn.aNil))) Dn.sNx)
    (Dn.sSeq (Dn.sOwn 2 (Dn.eLst Dn.aNil))
    (Dn.sSeq (Dn.sFor (Dn.iRng1 (Dn.e1 Dn.lenD (Dn.eVarW 0))) (Dn.gName 3) (Dn.sExt 2 (Dn.eComp (Dn.iSeq (Dn.eCall (Dn.noX F) (Dn.aCons (Dn.eCut (Dn.eVarW 0) (Dn.oInt (Dn.e2 Dn.addD (Dn.eVarW 3) (Dn.eC (.int 1)))) Dn.oNo) (Dn.aCons (Dn.e2 Dn.subD (Dn.eVarW 1) (Dn.eC (.int 1))) Dn.aNil)))) (Dn.gName 4) Dn.tYesF (Dn.e2 Dn.addD (Dn.eTup (Dn.aCons (Dn.e2 Dn.ixD (Dn.eVarW 0) (Dn.eVarW 3)) Dn.aNil)) (Dn.eVarW 4)) [4])))
    (Dn.sRetO 2))))
noncomputable def P_chosen : Nat → Dn.FF
  | 0 => fun _ => none
  | d + 1 => Dn.noX (Dn.runF 2 5 (b_P_chosen (P_chosen d)))
theorem P_chosen_noX : ∀ d, Dn.noX (P_chosen d) = P_chosen d
  | 0 => rfl
  | _ + 1 => Dn.noX_noX _
/-- product_of: 0 links 1 found 2 one 3 other 4 many -/
noncomputable def b_P_product_of : Dn.SF :=
    (Dn.sSeq (Dn.sAsg (Dn.gName 1) (Dn.eC (.int 1)))
    (Dn.sSeq (Dn.sFor (Dn.iSeq (Dn.eVar 0)) (Dn.gTup [2, 3, 4]) (Dn.sAsg (Dn.gName 1) (Dn.e2 Dn.mulD (Dn.eVarW 1) (Dn.eVarW 4))))
    (Dn.sRet (Dn.eVar 1))))
noncomputable def P_product_of : Dn.FF := Dn.noX (Dn.runF 1 5 b_P_product_of)
/-- trees: 0 yard 1 found 2 some 3 link -/
noncomputable def b_P_trees : Dn.SF :=
    (Dn.sSeq (Dn.sOwn 1 (Dn.eLst Dn.aNil))
    (Dn.sSeq (Dn.sFor (Dn.iSeq (Dn.eCall (P_chosen 6) (Dn.aCons (Dn.e2 Dn.ixD (Dn.eVarW 0) (Dn.eC (.int 1))) (Dn.aCons (Dn.e2 Dn.ixD (Dn.eVarW 0) (Dn.eC (.int 0))) Dn.aNil)))) (Dn.gName 2) (Dn.sIf (Dn.asB (Dn.e2 Dn.eqD (Dn.e1 Dn.lenD (Dn.eCall P_come_to (Dn.aCons (Dn.eVar 2) Dn.aNil))) (Dn.e2 Dn.addD (Dn.e2 Dn.ixD (Dn.eVarW 0) (Dn.eC (.int 0))) (Dn.eC (.int 1))))) (Dn.sApp 1 (Dn.eTup (Dn.aCons (Dn.e1 Dn.tupD (Dn.eComp (Dn.iSeq (Dn.eVar 2)) (Dn.gName 3) Dn.tYesF (Dn.eCut (Dn.eVarW 3) Dn.oNo (Dn.oInt (Dn.eC (.int 2)))) [3])) (Dn.aCons (Dn.eCall P_product_of (Dn.aCons (Dn.eVar 2) Dn.aNil)) Dn.aNil)))) Dn.sNx))
    (Dn.sRet (Dn.e1 Dn.tupD (Dn.e1 Dn.sortD (Dn.eVarW 1))))))
noncomputable def P_trees : Dn.FF := Dn.noX (Dn.runF 1 4 b_P_trees)
/-- count_of: 0 yard 1 tree 2 many -/
noncomputable def b_P_count_of : Dn.SF :=
    (Dn.sRet (Dn.e1 Dn.sumD (Dn.eComp (Dn.iSeq (Dn.eCall P_trees (Dn.aCons (Dn.eVar 0) Dn.aNil))) (Dn.gTup [1, 2]) Dn.tYesF (Dn.eVar 2) [1, 2])))
noncomputable def P_count_of : Dn.FF := Dn.noX (Dn.runF 1 3 b_P_count_of)
/-- _law_leads: 0 _law_some 1 _law_count 2 _law_met 3 _law_k 4 _law_low 5 _law_high 6 _law_many -/
noncomputable def b_L_leads : Dn.SF :=
    (Dn.sSeq (Dn.sOwn 2 (Dn.eLst (Dn.aCons (Dn.eC (.int 0)) Dn.aNil)))
    (Dn.sSeq (Dn.sFor (Dn.iRng1 (Dn.eVarW 1)) (Dn.gName 3) (Dn.sFor (Dn.iSeq (Dn.eVar 0)) (Dn.gTup [4, 5, 6]) (Dn.sIf (Dn.asB (Dn.e2 Dn.neD (Dn.e2 Dn.inD (Dn.eVarW 4) (Dn.eVarW 2)) (Dn.e2 Dn.inD (Dn.eVarW 5) (Dn.eVarW 2)))) (Dn.sApp 2 (Dn.e2 Dn.ixD (Dn.eLst (Dn.aCons (Dn.eVar 4) (Dn.aCons (Dn.eVar 5) Dn.aNil))) (Dn.e1 Dn.intD (Dn.e2 Dn.inD (Dn.eVarW 4) (Dn.eVarW 2))))) Dn.sNx)))
    (Dn.sRet (Dn.e2 Dn.eqD (Dn.e1 Dn.lenD (Dn.eVarW 2)) (Dn.e2 Dn.addD (Dn.eVarW 1) (Dn.eC (.int 1)))))))
noncomputable def L_leads : Dn.FF := Dn.noX (Dn.runF 2 7 b_L_leads)
/-- _law_measure: 0 _law_rows 1 _law_found 2 _law_k 3 _law_part 4 _law_rest 5 _law_row -/
noncomputable def b_L_measure (F : Dn.FF) : Dn.SF :=
    (Dn.sSeq (Dn.sIf (Dn.asB (Dn.e2 Dn.eqD (Dn.eVarW 0) (Dn.eLst Dn.aNil))) (Dn.sRet (Dn.eC (.int 1))) Dn.sNx)
    (Dn.sSeq (Dn.sAsg (Dn.gName 1) (Dn.eC (.int 0)))
    (Dn.sSeq (Dn.sFor (Dn.iEnumA (Dn.e2 Dn.ixD (Dn.eVarW 0) (Dn.eC (.int 0)))) (Dn.gTup [2, 3]) (Dn.sSeq (Dn.sAsg (Dn.gName 4) (Dn.eComp (Dn.iSeq (Dn.eCut (Dn.eVarW 0) (Dn.oInt (Dn.eC (.int 1))) Dn.oNo)) (Dn.gName 5) Dn.tYesF (Dn.e2 Dn.addD (Dn.eCut (Dn.eVarW 5) Dn.oNo (Dn.oInt (Dn.eVarW 2))) (Dn.eCut (Dn.eVarW 5) (Dn.oInt (Dn.e2 Dn.addD (Dn.eVarW 2) (Dn.eC (.int 1)))) Dn.oNo)) [5]))
    (Dn.sAsg (Dn.gName 1) (Dn.e2 Dn.addD (Dn.eVarW 1) (Dn.e2 Dn.mulD (Dn.e2 Dn.mulD (Dn.eVarW 3) (Dn.eCall (Dn.noX F) (Dn.aCons (Dn.eVar 4) Dn.aNil))) (Dn.e2 Dn.subD (Dn.eC (.int 1)) (Dn.e2 Dn.mulD (Dn.e2 Dn.modD (Dn.eVarW 2) (Dn.eC (.int 2))) (Dn.eC (.int 2)))))))))
    (Dn.sRet (Dn.eVar 1)))))
noncomputable def L_measure : Nat → Dn.FF
  | 0 => fun _ => none
  | d + 1 => Dn.noX (Dn.runF 1 6 (b_L_measure (L_measure d)))
theorem L_measure_noX : ∀ d, Dn.noX (L_measure d) = L_measure d
  | 0 => rfl
  | _ + 1 => Dn.noX_noX _
/-- _law_matrix: 0 _law_yard_here 1 _law_bounds 2 _law_rows 3 _law_one 4 _law_row 5 _law_other -/
noncomputable def b_L_matrix : Dn.SF :=
    (Dn.sSeq (Dn.sAsg (Dn.gName 1) (Dn.eCall L_sizes (Dn.aCons (Dn.eVar 0) Dn.aNil)))
    (Dn.sSeq (Dn.sOwn 2 (Dn.eLst Dn.aNil))
    (Dn.sSeq (Dn.sFor (Dn.iRng2 (Dn.eC (.int 1)) (Dn.e2 Dn.addD (Dn.e2 Dn.ixD (Dn.eVarW 0) (Dn.eC (.int 0))) (Dn.eC (.int 1)))) (Dn.gName 3) (Dn.sSeq (Dn.sOwn 4 (Dn.eComp (Dn.iRng2 (Dn.eC (.int 1)) (Dn.e2 Dn.addD (Dn.e2 Dn.ixD (Dn.eVarW 0) (Dn.eC (.int 0))) (Dn.eC (.int 1)))) (Dn.gName 5) Dn.tYesF (Dn.e1 Dn.negD (Dn.eCall L_between (Dn.aCons (Dn.eVar 0) (Dn.aCons (Dn.eVar 3) (Dn.aCons (Dn.eVar 5) Dn.aNil))))) [5]))
    (Dn.sSeq (Dn.sSetIx 4 (Dn.e2 Dn.subD (Dn.eVarW 3) (Dn.eC (.int 1))) (Dn.e2 Dn.ixD (Dn.eVarW 1) (Dn.e2 Dn.subD (Dn.eVarW 3) (Dn.eC (.int 1)))))
    (Dn.sAppOwn 2 4))))
    (Dn.sRetO 2))))
noncomputable def L_matrix : Dn.FF := Dn.noX (Dn.runF 1 6 b_L_matrix)
/-- _law_whole_times: 0 _law_yard_here 1 _law_one 2 _law_other 3 _law_rows 4 _law_whole 5 _law_k 6 _law_changed 7 _law_at 8 _law_row -/
noncomputable def b_L_whole_times : Dn.SF :=
    (Dn.sSeq (Dn.sAsg (Dn.gName 3) (Dn.eCall L_matrix (Dn.aCons (Dn.eVar 0) Dn.aNil)))
    (Dn.sSeq (Dn.sAsg (Dn.gName 4) (Dn.eCall (L_measure 6) (Dn.aCons (Dn.eVar 3) Dn.aNil)))
    (Dn.sSeq (Dn.sFor (Dn.iRng1 (Dn.e2 Dn.ixD (Dn.eVarW 0) (Dn.eC (.int 0)))) (Dn.gName 5) (Dn.sSeq (Dn.sOwn 6 (Dn.eLst Dn.aNil))
    (Dn.sSeq (Dn.sFor (Dn.iEnumA (Dn.eVar 3)) (Dn.gTup [7, 8]) (Dn.sApp 6 (Dn.e2 Dn.addD (Dn.e2 Dn.addD (Dn.eCut (Dn.eVarW 8) Dn.oNo (Dn.oInt (Dn.eVarW 5))) (Dn.eLst (Dn.aCons (Dn.e2 Dn.subD (Dn.e2 Dn.ixD (Dn.eVarW 1) (Dn.eVarW 7)) (Dn.e2 Dn.ixD (Dn.eVarW 2) (Dn.eVarW 7))) Dn.aNil))) (Dn.eCut (Dn.eVarW 8) (Dn.oInt (Dn.e2 Dn.addD (Dn.eVarW 5) (Dn.eC (.int 1)))) Dn.oNo))))
    (Dn.sFrz 6 (Dn.sIf (Dn.asB (Dn.e2 Dn.neD (Dn.e2 Dn.modD (Dn.eCall (L_measure 6) (Dn.aCons (Dn.eVar 6) Dn.aNil)) (Dn.eVarW 4)) (Dn.eC (.int 0)))) (Dn.sRet (Dn.eC (.bool false))) Dn.sNx)))))
    (Dn.sRet (Dn.eC (.bool true))))))
noncomputable def L_whole_times : Dn.FF := Dn.noX (Dn.runF 3 9 b_L_whole_times)
/-- rests: 0 yard 1 grains 2 part 3 size -/
noncomputable def b_P_rests : Dn.SF :=
    (Dn.sRet (Dn.e1 Dn.allD (Dn.eComp (Dn.iZip (Dn.eVar 1) (Dn.eCall P_sizes (Dn.aCons (Dn.eVar 0) Dn.aNil))) (Dn.gTup [2, 3]) Dn.tYesF (Dn.e2 Dn.ltD (Dn.eVarW 2) (Dn.eVarW 3)) [2, 3])))
noncomputable def P_rests : Dn.FF := Dn.noX (Dn.runF 2 4 b_P_rests)
/-- forced: 0 yard 1 grains 2 times 3 found 4 place 5 left 6 other -/
noncomputable def b_P_forced : Dn.SF :=
    (Dn.sSeq (Dn.sOwn 3 (Dn.eLst Dn.aNil))
    (Dn.sSeq (Dn.sFor (Dn.iRng2 (Dn.eC (.int 1)) (Dn.e2 Dn.addD (Dn.e2 Dn.ixD (Dn.eVarW 0) (Dn.eC (.int 0))) (Dn.eC (.int 1)))) (Dn.gName 4) (Dn.sSeq (Dn.sAsg (Dn.gName 5) (Dn.e2 Dn.subD (Dn.e2 Dn.ixD (Dn.eVarW 1) (Dn.e2 Dn.subD (Dn.eVarW 4) (Dn.eC (.int 1)))) (Dn.e2 Dn.mulD (Dn.e2 Dn.ixD (Dn.eVarW 2) (Dn.e2 Dn.subD (Dn.eVarW 4) (Dn.eC (.int 1)))) (Dn.e2 Dn.ixD (Dn.eCall P_sizes (Dn.aCons (Dn.eVar 0) Dn.aNil)) (Dn.e2 Dn.subD (Dn.eVarW 4) (Dn.eC (.int 1)))))))
    (Dn.sSeq (Dn.sFor (Dn.iRng2 (Dn.eC (.int 1)) (Dn.e2 Dn.addD (Dn.e2 Dn.ixD (Dn.eVarW 0) (Dn.eC (.int 0))) (Dn.eC (.int 1)))) (Dn.gName 6) (Dn.sIf (Dn.asB (Dn.e2 Dn.neD (Dn.eVarW 6) (Dn.eVarW 4))) (Dn.sAsg (Dn.gName 5) (Dn.e2 Dn.addD (Dn.eVarW 5) (Dn.e2 Dn.mulD (Dn.e2 Dn.ixD (Dn.eVarW 2) (Dn.e2 Dn.subD (Dn.eVarW 6) (Dn.eC (.int 1)))) (Dn.eCall P_between (Dn.aCons (Dn.eVar 0) (Dn.aCons (Dn.eVar 4) (Dn.aCons (Dn.eVar 6) Dn.aNil))))))) Dn.sNx))
    (Dn.sApp 3 (Dn.eVar 5)))))
    (Dn.sRet (Dn.e1 Dn.tupD (Dn.eVarW 3)))))
noncomputable def P_forced : Dn.FF := Dn.noX (Dn.runF 3 7 b_P_forced)
/-- settled: 0 yard 1 grains 2 bounds 3 at 4 times 5 more 6 part 7 size 8 one 9 other -/
noncomputable def b_P_settled : Dn.SF :=
    (Dn.sSeq (Dn.sAsg (Dn.gName 2) (Dn.eCall P_sizes (Dn.aCons (Dn.eVar 0) Dn.aNil)))
    (Dn.sSeq (Dn.sAsg (Dn.gName 3) (Dn.eVar 1))
    (Dn.sSeq (Dn.sAsg (Dn.gName 4) (Dn.eRep (Dn.eLst (Dn.aCons (Dn.eC (.int 0)) Dn.aNil)) (Dn.e2 Dn.ixD (Dn.eVarW 0) (Dn.eC (.int 0)))))
    (Dn.sSeq (Dn.sWhile (Dn.tNotF (Dn.asB (Dn.eCall P_rests (Dn.aCons (Dn.eVar 0) (Dn.aCons (Dn.eVar 3) Dn.aNil))))) (Dn.sSeq (Dn.sAsg (Dn.gName 5) (Dn.eComp (Dn.iZip (Dn.eVar 3) (Dn.eVar 2)) (Dn.gTup [6, 7]) Dn.tYesF (Dn.e2 Dn.fdivD (Dn.eVarW 6) (Dn.eVarW 7)) [6, 7]))
    (Dn.sSeq (Dn.sAsg (Dn.gName 3) (Dn.eCall P_forced (Dn.aCons (Dn.eVar 0) (Dn.aCons (Dn.eVar 3) (Dn.aCons (Dn.e1 Dn.tupD (Dn.eVarW 5)) Dn.aNil)))))
    (Dn.sAsg (Dn.gName 4) (Dn.eComp (Dn.iZip (Dn.eVar 4) (Dn.eVar 5)) (Dn.gTup [8, 9]) Dn.tYesF (Dn.e2 Dn.addD (Dn.eVarW 8) (Dn.eVarW 9)) [8, 9])))))
    (Dn.sRet (Dn.eTup (Dn.aCons (Dn.eVar 3) (Dn.aCons (Dn.e1 Dn.tupD (Dn.eVarW 4)) Dn.aNil))))))))
noncomputable def P_settled : Dn.FF := Dn.noX (Dn.runF 2 10 b_P_settled)
/-- put: 0 yard 1 one 2 other 3 here 4 there -/
noncomputable def b_P_put : Dn.SF :=
    (Dn.sRet (Dn.e2 Dn.ixD (Dn.eCall P_settled (Dn.aCons (Dn.eVar 0) (Dn.aCons (Dn.e1 Dn.tupD (Dn.eComp (Dn.iZip (Dn.eVar 1) (Dn.eVar 2)) (Dn.gTup [3, 4]) Dn.tYesF (Dn.e2 Dn.addD (Dn.eVarW 3) (Dn.eVarW 4)) [3, 4])) Dn.aNil))) (Dn.eC (.int 0))))
noncomputable def P_put : Dn.FF := Dn.noX (Dn.runF 3 5 b_P_put)
/-- least_loss: 0 yard 1 double 2 rest 3 size 4 one 5 other -/
noncomputable def b_P_least_loss : Dn.SF :=
    (Dn.sSeq (Dn.sAsg (Dn.gName 1) (Dn.e1 Dn.tupD (Dn.eComp (Dn.iSeq (Dn.eCall P_sizes (Dn.aCons (Dn.eVar 0) Dn.aNil))) (Dn.gName 3) Dn.tYesF (Dn.e2 Dn.mulD (Dn.eC (.int 2)) (Dn.eVarW 3)) [3])))
    (Dn.sSeq (Dn.sAsg (Dn.gName 2) (Dn.e2 Dn.ixD (Dn.eCall P_settled (Dn.aCons (Dn.eVar 0) (Dn.aCons (Dn.eVar 1) Dn.aNil))) (Dn.eC (.int 0))))
    (Dn.sRet (Dn.e1 Dn.tupD (Dn.eComp (Dn.iZip (Dn.eVar 1) (Dn.eVar 2)) (Dn.gTup [4, 5]) Dn.tYesF (Dn.e2 Dn.subD (Dn.eVarW 4) (Dn.eVarW 5)) [4, 5])))))
noncomputable def P_least_loss : Dn.FF := Dn.noX (Dn.runF 1 6 b_P_least_loss)
/-- home: 0 yard 1 grains -/
noncomputable def b_P_home : Dn.SF :=
    (Dn.sRet (Dn.eCall P_put (Dn.aCons (Dn.eVar 0) (Dn.aCons (Dn.eVar 1) (Dn.aCons (Dn.eCall P_least_loss (Dn.aCons (Dn.eVar 0) Dn.aNil)) Dn.aNil)))))
noncomputable def P_home : Dn.FF := Dn.noX (Dn.runF 2 2 b_P_home)
/-- alike: 0 yard 1 one 2 other -/
noncomputable def b_P_alike : Dn.SF :=
    (Dn.sRet (Dn.e2 Dn.eqD (Dn.eCall P_home (Dn.aCons (Dn.eVar 0) (Dn.aCons (Dn.eVar 1) Dn.aNil))) (Dn.eCall P_home (Dn.aCons (Dn.eVar 0) (Dn.aCons (Dn.eVar 2) Dn.aNil)))))
noncomputable def P_alike : Dn.FF := Dn.noX (Dn.runF 3 3 b_P_alike)
/-- _law_forced: 0 _law_yard_here 1 _law_grains_here 2 _law_times 3 _law_found 4 _law_low 5 _law_high 6 _law_many 7 _law_one 8 _law_other -/
noncomputable def b_L_forced : Dn.SF :=
    (Dn.sSeq (Dn.sOwn 3 (Dn.e1 Dn.lstD (Dn.eVarW 1)))
    (Dn.sSeq (Dn.sFor (Dn.iSeq (Dn.e2 Dn.ixD (Dn.eVarW 0) (Dn.eC (.int 1)))) (Dn.gTup [4, 5, 6]) (Dn.sFor (Dn.iSeq (Dn.eTup (Dn.aCons (Dn.eTup (Dn.aCons (Dn.eVar 4) (Dn.aCons (Dn.eVar 5) Dn.aNil))) (Dn.aCons (Dn.eTup (Dn.aCons (Dn.eVar 5) (Dn.aCons (Dn.eVar 4) Dn.aNil))) Dn.aNil)))) (Dn.gTup [7, 8]) (Dn.sIf (Dn.asB (Dn.e2 Dn.gtD (Dn.eVarW 7) (Dn.eC (.int 0)))) (Dn.sSeq (Dn.sSetIx 3 (Dn.e2 Dn.subD (Dn.eVarW 7) (Dn.eC (.int 1))) (Dn.e2 Dn.subD (Dn.e2 Dn.ixD (Dn.eVarW 3) (Dn.e2 Dn.subD (Dn.eVarW 7) (Dn.eC (.int 1)))) (Dn.e2 Dn.mulD (Dn.eVarW 6) (Dn.e2 Dn.ixD (Dn.eVarW 2) (Dn.e2 Dn.subD (Dn.eVarW 7) (Dn.eC (.int 1)))))))
    (Dn.sIf (Dn.asB (Dn.e2 Dn.gtD (Dn.eVarW 8) (Dn.eC (.int 0)))) (Dn.sSetIx 3 (Dn.e2 Dn.subD (Dn.eVarW 8) (Dn.eC (.int 1))) (Dn.e2 Dn.addD (Dn.e2 Dn.ixD (Dn.eVarW 3) (Dn.e2 Dn.subD (Dn.eVarW 8) (Dn.eC (.int 1)))) (Dn.e2 Dn.mulD (Dn.eVarW 6) (Dn.e2 Dn.ixD (Dn.eVarW 2) (Dn.e2 Dn.subD (Dn.eVarW 7) (Dn.eC (.int 1))))))) Dn.sNx)) Dn.sNx)))
    (Dn.sRet (Dn.e1 Dn.tupD (Dn.eVarW 3)))))
noncomputable def L_forced : Dn.FF := Dn.noX (Dn.runF 3 9 b_L_forced)
/-- _law_room: 0 _law_yard_here 1 _law_found 2 _law_place 3 _law_link -/
noncomputable def b_L_room : Dn.SF :=
    (Dn.sSeq (Dn.sAsg (Dn.gName 1) (Dn.eC (.int 1)))
    (Dn.sSeq (Dn.sFor (Dn.iRng2 (Dn.eC (.int 1)) (Dn.e2 Dn.addD (Dn.e2 Dn.ixD (Dn.eVarW 0) (Dn.eC (.int 0))) (Dn.eC (.int 1)))) (Dn.gName 2) (Dn.sAsg (Dn.gName 1) (Dn.e2 Dn.mulD (Dn.eVarW 1) (Dn.e1 Dn.sumD (Dn.eComp (Dn.iSeq (Dn.e2 Dn.ixD (Dn.eVarW 0) (Dn.eC (.int 1)))) (Dn.gName 3) (Dn.asB (Dn.e2 Dn.inD (Dn.eVarW 2) (Dn.eCut (Dn.eVarW 3) Dn.oNo (Dn.oInt (Dn.eC (.int 2)))))) (Dn.e2 Dn.ixD (Dn.eVarW 3) (Dn.eC (.int 2))) [3])))))
    (Dn.sRet (Dn.eVar 1))))
noncomputable def L_room : Dn.FF := Dn.noX (Dn.runF 1 4 b_L_room)
end Dg

set_option maxHeartbeats 4400000
namespace Pe
open Dn
open PySem (PyData)
abbrev Lk := Int × Int × Int
def encL (l : Lk) : D := .tuple [.int l.1, .int l.2.1, .int l.2.2]
def encLs (ls : List Lk) : D := .tuple (ls.map encL)
def encY (c : Int) (ls : List Lk) : D := .tuple [.int c, encLs ls]
def encG (g : List Int) : D := .tuple (g.map .int)
def btw : List Lk → Int → Int → Int
  | [], _, _ => 0
  | l :: r, i, j => if l.1 = min i j ∧ l.2.1 = max i j then l.2.2 else btw r i j
/-! ### rules -/
theorem e2_of {g : D → D → Option D} {fa fb : EF} {ρ : Env} {a b r : D} (h1 : fa ρ = some (.ok a)) (h2 : fb ρ = some (.ok b)) (h3 : g a b = some r) : e2 g fa fb ρ = some (.ok r) := by
  unfold e2
  rw [h1, bnd_ok, h2, bnd_ok, h3]
  rfl
theorem e1_of {g : D → Option D} {fa : EF} {ρ : Env} {a r : D} (h1 : fa ρ = some (.ok a)) (h3 : g a = some r) : e1 g fa ρ = some (.ok r) := by
  unfold e1
  rw [h1, bnd_ok, h3]
  rfl
@[simp] theorem intEq (a b : Int) : eqD (.int a) (.int b) = some (.bool (a == b)) := by
  simp [eqD, okD, PySem.PyData.plain, PySem.PyData.depth, PySem.PyData.eqv]
@[simp] theorem intNe (a b : Int) : neD (.int a) (.int b) = some (.bool (!(a == b))) := by
  simp [neD, okD, PySem.PyData.plain, PySem.PyData.depth, PySem.PyData.eqv]
@[simp] theorem intLt (a b : Int) : ltD (.int a) (.int b) = some (.bool (decide (a < b))) := by
  simp [ltD, cmpOk, PySem.W.alike, PySem.PyData.depth, PySem.W.dataLt_int]
@[simp] theorem intGt (a b : Int) : gtD (.int a) (.int b) = some (.bool (decide (b < a))) := by
  simp [gtD, cmpOk, PySem.W.alike, PySem.PyData.depth, PySem.W.dataLt_int]
@[simp] theorem intGe (a b : Int) : geD (.int a) (.int b) = some (.bool (decide (b ≤ a))) := by
  simp [geD, cmpOk, PySem.W.alike, PySem.PyData.depth, PySem.W.dataLt_int]
  by_cases h : a < b
  · simp [h, Int.not_le.mpr h]
  · simp [h, Int.not_lt.mp h]
@[simp] theorem intLe (a b : Int) : leD (.int a) (.int b) = some (.bool (decide (a ≤ b))) := by
  simp [leD, cmpOk, PySem.W.alike, PySem.PyData.depth, PySem.W.dataLt_int]
  by_cases h : b < a
  · simp [h, Int.not_le.mpr h]
  · simp [h, Int.not_lt.mp h]
@[simp] theorem pairEq (a b c d : Int) : eqD (.tuple [.int a, .int b]) (.tuple [.int c, .int d]) = some (.bool (decide (a = c ∧ b = d))) := by
  simp [eqD, okD, PySem.PyData.plain, PySem.PyData.plainAll, PySem.PyData.depth, PySem.PyData.depthAll, PySem.PyData.eqv, PySem.PyData.eqvAll]
  rw [Bool.eq_iff_iff]
  simp
theorem max2_eq (a b : Int) : max2D (.int a) (.int b) = some (.int (max a b)) := by
  have h : (if b > a then b else a) = max a b := by split <;> omega
  show some (PyData.int (if b > a then b else a)) = _
  rw [h]
theorem min2_eq (a b : Int) : min2D (.int a) (.int b) = some (.int (min a b)) := by
  have h : (if b < a then b else a) = min a b := by split <;> omega
  show some (PyData.int (if b < a then b else a)) = _
  rw [h]
/-! loops, comprehensions -/
theorem forL_fold {α S : Type} {g : GF} {b : SF} (enc : α → D) (st : S → Dn.Env) (f : S → α → S) : ∀ (xs : List α) (s : S), (∀ s x, x ∈ xs → ∃ ρ1, g (enc x) (st s) = some ρ1 ∧ b ρ1 = some (.nx (st (f s x)))) →
    forL g b (xs.map enc) (st s) = some (.nx (st (xs.foldl f s)))
  | [], s, _ => rfl
  | x :: xs, s, h => by
    obtain ⟨ρ1, h1, h2⟩ := h s x List.mem_cons_self
    rw [List.map_cons]
    unfold forL
    rw [h1]
    simp only
    rw [h2]
    simp only
    exact forL_fold enc st f xs (f s x) fun s y hy => h s y (List.mem_cons_of_mem _ hy)
/-- with an invariant -/
theorem forL_inv {α S : Type} {g : GF} {b : SF} (enc : α → D) (st : S → Dn.Env) (f : S → α → S) (I : S → Prop) : ∀ (xs : List α) (s : S), I s → (∀ s x, x ∈ xs → I s → I (f s x) ∧ ∃ ρ1, g (enc x) (st s) = some ρ1 ∧ b ρ1 = some (.nx (st (f s x)))) →
    forL g b (xs.map enc) (st s) = some (.nx (st (xs.foldl f s))) ∧ I (xs.foldl f s)
  | [], s, i, _ => ⟨rfl, i⟩
  | x :: xs, s, i, h => by
    obtain ⟨i2, ρ1, h1, h2⟩ := h s x List.mem_cons_self i
    have ih := forL_inv enc st f I xs (f s x) i2 fun s y hy => h s y (List.mem_cons_of_mem _ hy)
    rw [List.map_cons]
    unfold forL
    rw [h1]
    simp only
    rw [h2]
    simp only
    exact ih
/-- the state as a function of the part gone through -/
theorem forL_pre {α : Type} {g : GF} {b : SF} (enc : α → D) (st : List α → Dn.Env) : ∀ (post pre : List α), (∀ pr x po, pre ++ post = pr ++ x :: po → ∃ ρ1, g (enc x) (st pr) = some ρ1 ∧ b ρ1 = some (.nx (st (pr ++ [x])))) →
    forL g b (post.map enc) (st pre) = some (.nx (st (pre ++ post)))
  | [], pre, _ => by
    rw [List.append_nil]
    rfl
  | x :: post, pre, h => by
    obtain ⟨ρ1, h1, h2⟩ := h pre x post rfl
    rw [List.map_cons]
    unfold forL
    rw [h1]
    simp only
    rw [h2]
    simp only
    have e : pre ++ x :: post = (pre ++ [x]) ++ post := by simp
    rw [e] at h ⊢
    exact forL_pre enc st post (pre ++ [x]) h
theorem compL_map {α : Type} {g : GF} {t : TF} {f : EF} (enc : α → D) (ρ : Dn.Env) (p : α → Bool) (e : α → D) : ∀ (xs : List α), (∀ x, x ∈ xs → ∃ ρ1, g (enc x) ρ = some ρ1 ∧ t ρ1 = some (.ok (p x)) ∧ (p x = true → f ρ1 = some (.ok (e x)))) →
    compL g t f ρ (xs.map enc) = some (.ok ((xs.filter p).map e))
  | [], _ => rfl
  | x :: xs, h => by
    obtain ⟨ρ1, h1, h2, h3⟩ := h x List.mem_cons_self
    have ih := compL_map enc ρ p e xs fun y hy => h y (List.mem_cons_of_mem _ hy)
    rw [List.map_cons]
    unfold compL
    rw [h1]
    simp only
    rw [h2]
    cases hp : p x with
    | true =>
      simp only
      rw [h3 hp]
      simp only
      rw [ih, bnd_ok, List.filter_cons_of_pos hp]
      rfl
    | false =>
      simp only
      rw [ih, List.filter_cons_of_neg (by rw [hp]; exact Bool.false_ne_true)]
theorem compL_all {α : Type} {g : GF} {f : EF} (enc : α → D) (ρ : Dn.Env) (e : α → D) (xs : List α) (h : ∀ x, x ∈ xs → ∃ ρ1, g (enc x) ρ = some ρ1 ∧ f ρ1 = some (.ok (e x))) :
    compL g tYesF f ρ (xs.map enc) = some (.ok (xs.map e)) := by
  have := compL_map (t := tYesF) enc ρ (fun _ => true) e xs fun x hx => by
    obtain ⟨ρ1, h1, h2⟩ := h x hx
    exact ⟨ρ1, h1, rfl, fun _ => h2⟩
  rw [List.filter_eq_self.mpr (fun _ _ => rfl)] at this
  exact this
theorem intsOf_map : ∀ ns : List Int, intsOf (ns.map .int) = some ns
  | [] => rfl
  | n :: ns => by
    show (intsOf (ns.map .int)).map (n :: ·) = _
    rw [intsOf_map ns]
    rfl
theorem boolsOf_map : ∀ ns : List Bool, boolsOf (ns.map .bool) = some ns
  | [] => rfl
  | n :: ns => by
    show (boolsOf (ns.map .bool)).map (n :: ·) = _
    rw [boolsOf_map ns]
    rfl
@[simp] theorem runF_ok {n N : Nat} {b : SF} {ds : List D} {d : D} (hl : ds.length = n) (h : b (ds.map (fun d => some (.dat d)) ++ List.replicate (N - n) none) = some (.rt d)) : noX (runF n N b) ds = some (.ok d) := by
  unfold noX runF
  rw [if_pos hl, h]
  rfl
/-! evaluation -/
section
variable {ρ : Dn.Env} {i : Nat} {d : D} {fa fb fc : EF} {fs : AF} {α : Type}
@[simp] theorem ev_ret (a : α) : (ret a : M α) = some (.ok a) := rfl
@[simp] theorem ev_var : eVar i ρ = (match ρ[i]? with
  | some (some (.dat d)) => ret d
  | _ => none) := rfl
@[simp] theorem ev_varW : eVarW i ρ = (match ρ[i]? with
  | some (some (.dat d)) => ret d
  | some (some (.own ds)) => ret (.list ds)
  | _ => none) := rfl
@[simp] theorem ev_c : eC d ρ = some (.ok d) := rfl
@[simp] theorem ev_e1 {g : D → Option D} : e1 g fa ρ = bnd (fa ρ) fun a => lft (g a) := rfl
@[simp] theorem ev_e2 {g : D → D → Option D} : e2 g fa fb ρ = bnd (fa ρ) fun a => bnd (fb ρ) fun b => lft (g a b) := rfl
@[simp] theorem ev_asB : asB fa ρ = bnd (fa ρ) fun a => lft (boolD a) := rfl
@[simp] theorem ev_and : eAnd fa fb ρ = bnd (asB fa ρ) fun c => if c = true then fb ρ else ret (.bool false) := rfl
@[simp] theorem ev_or : eOr fa fb ρ = bnd (asB fa ρ) fun c => if c = true then ret (.bool true) else fb ρ := rfl
@[simp] theorem ev_aNil : aNil ρ = some (.ok []) := rfl
@[simp] theorem ev_aCons {fr : AF} : aCons fa fr ρ = bnd (fa ρ) fun a => bnd (fr ρ) fun r => ret (a :: r) := rfl
@[simp] theorem ev_tup : eTup fs ρ = bnd (fs ρ) fun ds => if ds.length ≤ 1000 then ret (.tuple ds) else none := rfl
@[simp] theorem ev_lst : eLst fs ρ = bnd (fs ρ) fun ds => if ds.length ≤ 1000 then ret (.list ds) else none := rfl
@[simp] theorem ev_call {g : FF} : eCall g fs ρ = bnd (fs ρ) g := rfl
@[simp] theorem ev_iSeq : iSeq fa ρ = bnd (fa ρ) fun a => lft (seqOf a) := rfl
@[simp] theorem ev_iRng1 : iRng1 fa ρ = bnd (fa ρ) fun a => lft (rangeD (.int 0) a) := rfl
@[simp] theorem ev_iRng2 : iRng2 fa fb ρ = bnd (fa ρ) fun a => bnd (fb ρ) fun b => lft (rangeD a b) := rfl
@[simp] theorem ev_iZip : iZip fa fb ρ = bnd (fa ρ) fun a => bnd (fb ρ) fun b => lft (zipD a b) := rfl
@[simp] theorem ev_gName : gName i d ρ = some (ρ.set i (some (.dat d))) := rfl
@[simp] theorem ev_gTup {is : List Nat} {ds : List D} : gTup is (.tuple ds) ρ = setAll is ds ρ := rfl
@[simp] theorem ev_setNil : setAll [] [] ρ = some ρ := rfl
@[simp] theorem ev_setCons {is : List Nat} {ds : List D} : setAll (i :: is) (d :: ds) ρ = setAll is ds (ρ.set i (some (.dat d))) := rfl
@[simp] theorem ev_sNx : sNx ρ = some (.nx ρ) := rfl
@[simp] theorem ev_sSeq {a b : SF} : sSeq a b ρ = (match a ρ with
  | some (.nx ρ') => b ρ'
  | x => x) := rfl
@[simp] theorem ev_sIf {t : TF} {a b : SF} : sIf t a b ρ = bS (t ρ) fun c => if c = true then a ρ else b ρ := rfl
@[simp] theorem ev_sRet : sRet fa ρ = bS (fa ρ) fun d => some (.rt d) := rfl
@[simp] theorem ev_sAsg {g : GF} : sAsg g fa ρ = bS (fa ρ) fun d => (g d ρ).map .nx := rfl
@[simp] theorem ev_sOwn : sOwn i fa ρ = bS (fa ρ) fun d => match d with
  | .list ds => some (.nx (ρ.set i (some (.own ds))))
  | _ => none := rfl
@[simp] theorem ev_sApp : sApp i fa ρ = (match ρ[i]? with
  | some (some (.own ds)) => bS (fa ρ) fun d => if ds.length < 1000000 then some (.nx (ρ.set i (some (.own (ds ++ [d]))))) else none
  | _ => none) := rfl
@[simp] theorem ev_sFor {g : GF} {b : SF} : sFor fs g b ρ = bS (fs ρ) fun ds => forL g b ds ρ := rfl
@[simp] theorem ev_addI (a b : Int) : addD (.int a) (.int b) = some (.int (a + b)) := rfl
@[simp] theorem ev_subI (a b : Int) : subD (.int a) (.int b) = some (.int (a - b)) := rfl
@[simp] theorem ev_boolD (b : Bool) : boolD (.bool b) = some b := rfl
@[simp] theorem ev_seqL (xs : List D) : seqOf (.list xs) = some xs := rfl
@[simp] theorem ev_seqT (xs : List D) : seqOf (.tuple xs) = some xs := rfl
@[simp] theorem ev_tupL (xs : List D) : tupD (.list xs) = some (.tuple xs) := rfl
@[simp] theorem ev_comp {g : GF} {t : TF} {vs : List Nat} : eComp fs g t fa vs ρ = bnd (fs ρ) fun ds => if ds.length ≤ 1000000 then bnd (compL g t fa (wipe ρ vs) ds) fun r => ret (.list r) else none := rfl
@[simp] theorem ev_wipe0 : wipe ρ [] = ρ := rfl
@[simp] theorem ev_wipe1 {vs : List Nat} : wipe ρ (i :: vs) = (wipe ρ vs).set i none := rfl
@[simp] theorem ev_sum (ns : List Int) : sumD (.list (ns.map .int)) = some (.int ns.sum) := by
  show (intsOf (ns.map .int)).map _ = _
  rw [intsOf_map]
  rfl
@[simp] theorem ev_all (ns : List Bool) : allD (.list (ns.map .bool)) = some (.bool (ns.all id)) := by
  show (boolsOf (ns.map .bool)).map _ = _
  rw [boolsOf_map]
  rfl
@[simp] theorem ev_ix0 (x : D) (r : List D) : ixD (.tuple (x :: r)) (.int 0) = some x := by
  simp [ixD, ixNat]
@[simp] theorem ev_ix1 (x y : D) (r : List D) : ixD (.tuple (x :: y :: r)) (.int 1) = some y := by
  simp [ixD, ixNat]
  rw [if_pos (by omega)]
  rfl
theorem ev_ixG {g : List Int} {k : Nat} {v : Int} (h : g[k]? = some v) : ixD (encG g) (.int k) = some (.int v) := by
  have hl : k < g.length := (List.getElem?_eq_some_iff.mp h).1
  simp [encG, ixD, ixNat, hl]
  rw [List.getElem?_eq_getElem hl] at h
  exact Option.some.inj h
end
/-! between -/
theorem lp_between (Y : Option Sl) (i j : Int) : ∀ (ls : List Lk) (s3 s4 s5 : Option Sl), ∃ s3' s4' s5',
    forL (gTup [3, 4, 5]) (sIf (asB (e2 eqD (eTup (aCons (eVar 3) (aCons (eVar 4) aNil))) (eTup (aCons (e2 min2D (eVarW 1) (eVarW 2)) (aCons (e2 max2D (eVarW 1) (eVarW 2)) aNil))))) (sRet (eVar 5)) sNx) (ls.map encL) [Y, some (.dat (.int i)), some (.dat (.int j)), s3, s4, s5]
      = some (.rt (.int (btw ls i j))) ∨
    (forL (gTup [3, 4, 5]) (sIf (asB (e2 eqD (eTup (aCons (eVar 3) (aCons (eVar 4) aNil))) (eTup (aCons (e2 min2D (eVarW 1) (eVarW 2)) (aCons (e2 max2D (eVarW 1) (eVarW 2)) aNil))))) (sRet (eVar 5)) sNx) (ls.map encL) [Y, some (.dat (.int i)), some (.dat (.int j)), s3, s4, s5]
      = some (.nx [Y, some (.dat (.int i)), some (.dat (.int j)), s3', s4', s5']) ∧ btw ls i j = 0)
  | [], s3, s4, s5 => ⟨s3, s4, s5, .inr ⟨rfl, rfl⟩⟩
  | l :: ls, s3, s4, s5 => by
    obtain ⟨s3', s4', s5', ih⟩ := lp_between Y i j ls (some (.dat (.int l.1))) (some (.dat (.int l.2.1))) (some (.dat (.int l.2.2)))
    by_cases h : l.1 = min i j ∧ l.2.1 = max i j
    · refine ⟨s3', s4', s5', .inl ?_⟩
      simp [encL, forL, min2_eq, max2_eq, h, btw]
    · refine ⟨s3', s4', s5', ?_⟩
      simp [encL, forL, min2_eq, max2_eq, btw]
      simp only [if_neg h]
      exact ih
theorem ev_between (c : Int) (ls : List Lk) (i j : Int) : Dg.P_between [encY c ls, .int i, .int j] = some (.ok (.int (btw ls i j))) := by
  obtain ⟨s3, s4, s5, h⟩ := lp_between (some (.dat (encY c ls))) i j ls none none none
  have hb : Dg.b_P_between [some (.dat (encY c ls)), some (.dat (.int i)), some (.dat (.int j)), none, none, none] = some (.rt (.int (btw ls i j))) := by
    unfold Dg.b_P_between
    unfold sSeq sFor iSeq
    have h0 : e2 ixD (eVarW 0) (eC (.int 1)) [some (.dat (encY c ls)), some (.dat (.int i)), some (.dat (.int j)), none, none, none] = some (.ok (encLs ls)) := by
      simp [encY]
    rw [h0, bnd_ok]
    simp only [encLs, seqOf, lft_some, bS_ok]
    rcases h with h | ⟨h, h'⟩
    · rw [h]
    · rw [h]
      simp [h']
  unfold Dg.P_between noX runF
  simp [hb, ret]
/-! sizes -/
def sz (ls : List Lk) (p : Int) : Int := ((ls.filter fun l => l.1 == p || l.2.1 == p).map fun l => l.2.2).sum
@[simp] theorem inPair (p a b : Int) : inD (.int p) (.tuple [.int a, .int b]) = some (.bool (a == p || b == p)) := by
  simp [inD, PySem.PyData.plainAll, PySem.PyData.plain, okD, PySem.PyData.depth, PySem.PyData.eqv]
def nums (c : Int) : List Int := (List.range c.toNat).map fun (i : Nat) => (1 : Int) + (i : Int)
theorem rgL_nums (c : Int) : rgL 1 (c + 1) = (nums c).map .int := by
  unfold rgL nums
  have e : (c + 1 - 1).toNat = c.toNat := by omega
  rw [e, List.map_map]
  rfl
theorem rng_nums {c : Int} (h1 : 0 ≤ c) (h2 : c ≤ 100) : rangeD (.int 1) (.int (c + 1)) = some ((nums c).map .int) := by
  have e : (rgOk 1 && rgOk (c + 1)) = true := by
    simp [rgOk]
    omega
  show (if (rgOk 1 && rgOk (c + 1)) = true then some (rgL 1 (c + 1)) else none) = _
  rw [if_pos e, rgL_nums]
theorem foldl_app {α β : Type} (f : α → β) : ∀ (xs : List α) (acc : List β), xs.foldl (fun s x => s ++ [f x]) acc = acc ++ xs.map f
  | [], acc => by simp
  | x :: xs, acc => by
    rw [List.foldl_cons, foldl_app f xs, List.map_cons, List.append_assoc]
    rfl
structure G (c : Int) (ls : List Lk) : Prop where
  c1 : 1 ≤ c
  c2 : c ≤ 100
  l1 : ls.length ≤ 1000
  m1 : ∀ l ∈ ls, 0 ≤ l.2.2 ∧ l.2.2 ≤ 100
def bd_sizes : SF := sApp 1 (e1 sumD (eComp (iSeq (e2 ixD (eVarW 0) (eC (.int 1)))) (gTup [3, 4, 5]) (asB (e2 inD (eVarW 2) (eTup (aCons (eVar 3) (aCons (eVar 4) aNil))))) (eVar 5) [3, 4, 5]))
theorem st_sizes {c : Int} {ls : List Lk} (g : G c ls) (acc : List D) (p : Int) (x y z : Option Sl) (hl : acc.length < 1000000) :
    bd_sizes [some (.dat (encY c ls)), some (.own acc), some (.dat (.int p)), x, y, z] = some (.nx [some (.dat (encY c ls)), some (.own (acc ++ [.int (sz ls p)])), some (.dat (.int p)), x, y, z]) := by
  have hc : compL (gTup [3, 4, 5]) (asB (e2 inD (eVarW 2) (eTup (aCons (eVar 3) (aCons (eVar 4) aNil))))) (eVar 5) [some (.dat (encY c ls)), some (.own acc), some (.dat (.int p)), none, none, none] (ls.map encL) = some (.ok (((ls.filter fun l => l.1 == p || l.2.1 == p)).map fun l => .int l.2.2)) := by
    refine compL_map encL _ (fun l => l.1 == p || l.2.1 == p) (fun l => .int l.2.2) ls fun l hl => ⟨[some (.dat (encY c ls)), some (.own acc), some (.dat (.int p)), some (.dat (.int l.1)), some (.dat (.int l.2.1)), some (.dat (.int l.2.2))], ?_, ?_, ?_⟩
    · simp [encL]
    · simp
    · intro _
      simp
  have hm : ((ls.filter fun l => l.1 == p || l.2.1 == p).map fun l => PyData.int l.2.2) = ((ls.filter fun l => l.1 == p || l.2.1 == p).map fun l => l.2.2).map .int := by
    rw [List.map_map]
    rfl
  have hlen : ls.length ≤ 1000000 := by have := g.l1; omega
  unfold bd_sizes
  simp [encY, encLs] at hc ⊢
  rw [if_pos hlen, hc]
  simp only [bnd_ok]
  rw [hm, ev_sum]
  simp [hl, sz]
theorem ev_sizes {c : Int} {ls : List Lk} (g : G c ls) : Dg.P_sizes [encY c ls] = some (.ok (encG ((nums c).map (sz ls)))) := by
  refine runF_ok rfl ?_
  show Dg.b_P_sizes [some (.dat (encY c ls)), none, none, none, none, none] = _
  have hn : (nums c).length ≤ 100 := by
    unfold nums
    rw [List.length_map, List.length_range]
    have := g.c2
    omega
  have hl := forL_pre (g := gName 2) (b := bd_sizes) PyData.int (fun pre => [some (.dat (encY c ls)), some (.own (pre.map fun p => .int (sz ls p))), pre.getLast?.map fun p => .dat (.int p), none, none, none]) (nums c) [] (by
    intro pr x po hp
    have hpl : pr.length < (nums c).length := by
      rw [List.nil_append] at hp
      rw [hp, List.length_append, List.length_cons]
      omega
    refine ⟨_, rfl, ?_⟩
    have := st_sizes g (pr.map fun p => .int (sz ls p)) x none none none (by rw [List.length_map]; omega)
    simpa using this)
  have e0 : e2 addD (e2 ixD (eVarW 0) (eC (.int 0))) (eC (.int 1)) [some (.dat (encY c ls)), some (.own []), none, none, none, none] = some (.ok (.int (c + 1))) := by
    simp [encY]
  unfold Dg.b_P_sizes
  have hc1 := g.c1
  simp only [ev_sSeq, ev_sOwn, ev_lst, ev_aNil, bnd_ok, List.length_nil, Nat.zero_le, if_true, ev_ret, bS_ok, List.set_cons_succ, List.set_cons_zero, ev_sFor, ev_iRng2, ev_c]
  rw [e0]
  simp only [bnd_ok]
  rw [rng_nums (by omega) g.c2]
  simp only [lft_some, bS_ok]
  have hl' := hl
  simp only [List.map_nil, List.nil_append, List.getLast?_nil, Option.map_none] at hl'
  show (match forL (gName 2) bd_sizes (List.map PyData.int (nums c)) _ with
    | some (.nx ρ') => sRet (e1 tupD (eVarW 1)) ρ'
    | x => x) = _
  rw [hl']
  simp [encG]
end Pe

set_option maxHeartbeats 4400000
namespace Pe
open Dn
open PySem (PyData)
/-! vectors over the places -/
def encF (c : Int) (f : Int → Int) : D := encG ((nums c).map f)
theorem mem_nums {c p : Int} : p ∈ nums c ↔ 1 ≤ p ∧ p ≤ c := by
  unfold nums
  rw [List.mem_map]
  constructor
  · rintro ⟨i, hi, rfl⟩
    rw [List.mem_range] at hi
    omega
  · rintro ⟨h1, h2⟩
    exact ⟨(p - 1).toNat, List.mem_range.mpr (by omega), by omega⟩
theorem nums_get {c p : Int} (h : p ∈ nums c) : (nums c)[(p - 1).toNat]? = some p := by
  obtain ⟨h1, h2⟩ := mem_nums.mp h
  unfold nums
  rw [List.getElem?_map, List.getElem?_range (by omega)]
  have e : (1 : Int) + (((p - 1).toNat : Nat) : Int) = p := by omega
  show some ((1 : Int) + (((p - 1).toNat : Nat) : Int)) = some p
  rw [e]
theorem nums_len (c : Int) : (nums c).length = c.toNat := by
  unfold nums
  rw [List.length_map, List.length_range]
theorem ixF {c p : Int} (f : Int → Int) (h : p ∈ nums c) : ixD (encF c f) (.int (p - 1)) = some (.int (f p)) := by
  have hg : ((nums c).map f)[(p - 1).toNat]? = some (f p) := by
    rw [List.getElem?_map, nums_get h]
    rfl
  have h2 := ev_ixG hg
  obtain ⟨h1, _⟩ := mem_nums.mp h
  have e : (((p - 1).toNat : Nat) : Int) = p - 1 := by omega
  rw [e] at h2
  exact h2
theorem sum_bound {b : Int} (hb : 0 ≤ b) : ∀ {ns : List Int}, (∀ n ∈ ns, 0 ≤ n ∧ n ≤ b) → 0 ≤ ns.sum ∧ ns.sum ≤ b * ns.length
  | [], _ => by simp
  | n :: ns, h => by
    have ih := sum_bound hb (ns := ns) fun m hm => h m (List.mem_cons_of_mem _ hm)
    have hn := h n List.mem_cons_self
    rw [List.sum_cons, List.length_cons]
    have e : b * ((ns.length + 1 : Nat) : Int) = b * ns.length + b := by
      rw [Int.natCast_add, Int.mul_add]
      simp
    omega
theorem sz_bound {c : Int} {ls : List Lk} (g : G c ls) (p : Int) : 0 ≤ sz ls p ∧ sz ls p ≤ 100000 := by
  unfold sz
  have h := sum_bound (b := 100) (by decide) (ns := (ls.filter fun l => l.1 == p || l.2.1 == p).map fun l => l.2.2) fun n hn => by
    obtain ⟨l, hl, rfl⟩ := List.mem_map.mp hn
    exact g.m1 l (List.mem_filter.mp hl).1
  have h2 : ((ls.filter fun l => l.1 == p || l.2.1 == p).map fun l => l.2.2).length ≤ 1000 := by
    rw [List.length_map]
    exact Nat.le_trans (List.length_filter_le _ _) g.l1
  omega
theorem btw_bound : ∀ {ls : List Lk}, (∀ l ∈ ls, 0 ≤ l.2.2 ∧ l.2.2 ≤ 100) → ∀ i j, 0 ≤ btw ls i j ∧ btw ls i j ≤ 100
  | [], _, _, _ => by simp [btw]
  | l :: ls, h, i, j => by
    unfold btw
    split
    · exact h l List.mem_cons_self
    · exact btw_bound (fun l hl => h l (List.mem_cons_of_mem _ hl)) i j
theorem mulD_small {a b : Int} (h : -(2 ^ 64) < b ∧ b < 2 ^ 64) : mulD (.int a) (.int b) = some (.int (a * b)) := by
  have e : smallI b = true := by
    unfold smallI
    rw [decide_eq_true h.1, decide_eq_true h.2]
    rfl
  show (if (smallI a || smallI b) = true then some (PyData.int (a * b)) else none) = _
  rw [if_pos (by rw [e, Bool.or_true])]
/-! forced -/
def fo (c : Int) (ls : List Lk) (g t : Int → Int) (p : Int) : Int :=
  (nums c).foldl (fun left o => if o = p then left else left + t o * btw ls p o) (g p - t p * sz ls p)
end Pe

set_option maxHeartbeats 4400000
namespace Pe
open Dn
open PySem (PyData)
/-! rests -/
theorem zip_map {α : Type} (f h : α → D) : ∀ xs : List α, zipL (xs.map f) (xs.map h) = xs.map fun x => .tuple [f x, h x]
  | [] => rfl
  | x :: xs => by
    rw [List.map_cons, List.map_cons, List.map_cons]
    show _ :: zipL _ _ = _
    rw [zip_map f h xs]
theorem zip_F (c : Int) (f h : Int → Int) : zipD (encF c f) (encF c h) = some ((nums c).map fun p => .tuple [.int (f p), .int (h p)]) := by
  unfold encF encG
  rw [List.map_map, List.map_map]
  show some _ = _
  rw [zip_map]
  rfl
def rst (c : Int) (ls : List Lk) (g : Int → Int) : Bool := (nums c).all fun p => decide (g p < sz ls p)
theorem nums_small {c : Int} {ls : List Lk} (k : G c ls) : (nums c).length ≤ 1000000 := by
  rw [nums_len]
  have := k.c2
  omega
theorem ev_rests {c : Int} {ls : List Lk} (k : G c ls) (g : Int → Int) : Dg.P_rests [encY c ls, encF c g] = some (.ok (.bool (rst c ls g))) := by
  refine runF_ok rfl ?_
  show Dg.b_P_rests [some (.dat (encY c ls)), some (.dat (encF c g)), none, none] = _
  unfold Dg.b_P_rests
  have hc := compL_all (g := gTup [2, 3]) (f := e2 ltD (eVarW 2) (eVarW 3)) (fun p => PyData.tuple [.int (g p), .int (sz ls p)]) [some (.dat (encY c ls)), some (.dat (encF c g)), none, none] (fun p => .bool (decide (g p < sz ls p))) (nums c) (fun p hp => ⟨[some (.dat (encY c ls)), some (.dat (encF c g)), some (.dat (.int (g p))), some (.dat (.int (sz ls p)))], by simp, by simp⟩)
  have hm : ((nums c).map fun p => PyData.bool (decide (g p < sz ls p))) = ((nums c).map fun p => decide (g p < sz ls p)).map .bool := by
    rw [List.map_map]
    rfl
  have hz := zip_F c g (sz ls)
  have hz' : zipD (encF c g) (encG ((nums c).map (sz ls))) = some ((nums c).map fun p => .tuple [.int (g p), .int (sz ls p)]) := hz
  have hlen : (nums c).length ≤ 1000000 := nums_small k
  simp [ev_sizes k, hz', hlen]
  rw [hc]
  simp only [bnd_ok]
  rw [hm, ev_all]
  simp [rst]

/-! ### the mathematics of tumbling -/
def sumN (c : Int) (f : Int → Int) : Int := ((nums c).map f).sum
theorem sum_map_add (f h : Int → Int) : ∀ xs : List Int, (xs.map fun x => f x + h x).sum = (xs.map f).sum + (xs.map h).sum
  | [] => rfl
  | x :: xs => by
    rw [List.map_cons, List.map_cons, List.map_cons, List.sum_cons, List.sum_cons, List.sum_cons, sum_map_add f h xs]
    omega
theorem sum_map_mul (k : Int) (f : Int → Int) : ∀ xs : List Int, (xs.map fun x => k * f x).sum = k * (xs.map f).sum
  | [] => by simp
  | x :: xs => by
    rw [List.map_cons, List.map_cons, List.sum_cons, List.sum_cons, sum_map_mul k f xs, Int.mul_add]
theorem sum_map_le (f h : Int → Int) : ∀ xs : List Int, (∀ x ∈ xs, f x ≤ h x) → (xs.map f).sum ≤ (xs.map h).sum
  | [], _ => Int.le_refl _
  | x :: xs, k => by
    rw [List.map_cons, List.map_cons, List.sum_cons, List.sum_cons]
    have := k x List.mem_cons_self
    have := sum_map_le f h xs fun y hy => k y (List.mem_cons_of_mem _ hy)
    omega
theorem sum_map_lt (f h : Int → Int) : ∀ xs : List Int, (∀ x ∈ xs, f x ≤ h x) → (∃ x ∈ xs, f x < h x) → (xs.map f).sum < (xs.map h).sum
  | [], _, ⟨x, hx, _⟩ => by cases hx
  | x :: xs, k, ⟨y, hy, hlt⟩ => by
    rw [List.map_cons, List.map_cons, List.sum_cons, List.sum_cons]
    have h1 := k x List.mem_cons_self
    have h2 := sum_map_le f h xs fun y hy => k y (List.mem_cons_of_mem _ hy)
    rcases List.mem_cons.mp hy with rfl | hy
    · omega
    · have := sum_map_lt f h xs (fun y hy => k y (List.mem_cons_of_mem _ hy)) ⟨y, hy, hlt⟩
      omega
theorem sum_map_congr (f h : Int → Int) : ∀ xs : List Int, (∀ x ∈ xs, f x = h x) → (xs.map f).sum = (xs.map h).sum := fun xs k => by
  rw [List.map_congr_left k]
theorem sum_map_nonneg (f : Int → Int) (xs : List Int) (k : ∀ x ∈ xs, 0 ≤ f x) : 0 ≤ (xs.map f).sum := by
  have := sum_map_le (fun _ => 0) f xs k
  have e : (xs.map fun _ => (0 : Int)).sum = 0 := by
    induction xs with
    | nil => rfl
    | cons x xs ih =>
      rw [List.map_cons, List.sum_cons, ih (fun y hy => k y (List.mem_cons_of_mem _ hy)) (sum_map_le (fun _ => 0) f xs fun y hy => k y (List.mem_cons_of_mem _ hy))]
      rfl
  omega
theorem foldl_sum (f : Int → Int) (p : Int → Prop) [DecidablePred p] : ∀ (xs : List Int) (a : Int), xs.foldl (fun left o => if p o then left else left + f o) a = a + (xs.map fun o => if p o then 0 else f o).sum
  | [], a => by simp
  | x :: xs, a => by
    rw [List.foldl_cons, foldl_sum f p xs, List.map_cons, List.sum_cons]
    split <;> omega
/-- what comes in from the others -/
def inc (c : Int) (ls : List Lk) (t : Int → Int) (p : Int) : Int := sumN c fun o => if o = p then 0 else t o * btw ls p o
theorem fo_eq (c : Int) (ls : List Lk) (g t : Int → Int) (p : Int) : fo c ls g t p = g p - t p * sz ls p + inc c ls t p := by
  unfold fo inc sumN
  exact foldl_sum (fun o => t o * btw ls p o) (fun o => o = p) _ _
theorem inc_add (c : Int) (ls : List Lk) (t u : Int → Int) (p : Int) : inc c ls (fun o => t o + u o) p = inc c ls t p + inc c ls u p := by
  unfold inc sumN
  rw [← sum_map_add]
  refine sum_map_congr _ _ _ fun o _ => ?_
  show (if o = p then 0 else (t o + u o) * btw ls p o) = (if o = p then 0 else t o * btw ls p o) + (if o = p then 0 else u o * btw ls p o)
  split
  · rfl
  · exact Int.add_mul _ _ _
theorem inc_mul (c : Int) (ls : List Lk) (k : Int) (t : Int → Int) (p : Int) : inc c ls (fun o => k * t o) p = k * inc c ls t p := by
  unfold inc sumN
  rw [← sum_map_mul]
  refine sum_map_congr _ _ _ fun o _ => ?_
  show (if o = p then 0 else k * t o * btw ls p o) = k * (if o = p then 0 else t o * btw ls p o)
  split
  · rw [Int.mul_zero]
  · exact Int.mul_assoc _ _ _
theorem inc_congr {c : Int} {ls : List Lk} {t u : Int → Int} {p : Int} (h : ∀ o ∈ nums c, t o = u o) : inc c ls t p = inc c ls u p := by
  unfold inc sumN
  refine sum_map_congr _ _ _ fun o ho => ?_
  show (if o = p then 0 else t o * btw ls p o) = (if o = p then 0 else u o * btw ls p o)
  rw [h o ho]
theorem inc_nonneg {c : Int} {ls : List Lk} (k : G c ls) {t : Int → Int} (p : Int) (h : ∀ o ∈ nums c, 0 ≤ t o) : 0 ≤ inc c ls t p := by
  refine sum_map_nonneg _ _ fun o ho => ?_
  show 0 ≤ (if o = p then 0 else t o * btw ls p o)
  split
  · exact Int.le_refl _
  · exact Int.mul_nonneg (h o ho) (btw_bound k.m1 p o).1
theorem fo_add (c : Int) (ls : List Lk) (g t u : Int → Int) (p : Int) : fo c ls g (fun o => t o + u o) p = fo c ls (fo c ls g t) u p := by
  rw [fo_eq, fo_eq, fo_eq, inc_add, Int.add_mul]
  omega
theorem fo_congr {c : Int} {ls : List Lk} {g g' t u : Int → Int} {p : Int} (hp : p ∈ nums c) (hg : g p = g' p) (h : ∀ o ∈ nums c, t o = u o) : fo c ls g t p = fo c ls g' u p := by
  rw [fo_eq, fo_eq, inc_congr h, hg, h p hp]
theorem fo_zero (c : Int) (ls : List Lk) (g : Int → Int) (p : Int) : fo c ls g (fun _ => 0) p = g p := by
  have := inc_mul c ls 0 (fun _ => 0) p
  simp only [Int.zero_mul, Int.mul_zero] at this
  rw [fo_eq, this]
  omega
/-- a yard whose tumbling ends -/
structure Y (c : Int) (ls : List Lk) : Prop extends G c ls where
  s1 : ∀ p ∈ nums c, 1 ≤ sz ls p
  pot : ∃ h : Int → Int, (∀ p ∈ nums c, 0 ≤ h p) ∧ ∀ p ∈ nums c, inc c ls h p + 1 ≤ h p * sz ls p
/-- times that bring to rest -/
def Stab (c : Int) (ls : List Lk) (g t : Int → Int) : Prop := (∀ p ∈ nums c, 0 ≤ t p) ∧ ∀ p ∈ nums c, fo c ls g t p < sz ls p
theorem lap {c : Int} {ls : List Lk} (k : Y c ls) {g u s t : Int → Int} (hu : ∀ p ∈ nums c, u p ≤ t p) (hs : ∀ p ∈ nums c, s p * sz ls p ≤ fo c ls g u p) (ht : ∀ p ∈ nums c, fo c ls g t p < sz ls p) :
    ∀ p ∈ nums c, u p + s p ≤ t p := fun p hp => by
  have e : fo c ls g t p = fo c ls (fo c ls g u) (fun o => t o - u o) p := by
    rw [← fo_add]
    exact fo_congr hp rfl fun o _ => by omega
  have h1 := ht p hp
  rw [e, fo_eq] at h1
  have h2 := inc_nonneg k.toG p (t := fun o => t o - u o) fun o ho => by have := hu o ho; show 0 ≤ t o - u o; omega
  have h3 := hs p hp
  have h4 := k.s1 p hp
  by_cases hc : u p + s p ≤ t p
  · exact hc
  · have h5 : t p - u p + 1 ≤ s p := by omega
    have h6 : (t p - u p + 1) * sz ls p ≤ s p * sz ls p := Int.mul_le_mul_of_nonneg_right h5 (by omega)
    rw [Int.add_mul, Int.one_mul] at h6
    omega
theorem stab_ex {c : Int} {ls : List Lk} (k : Y c ls) (g : Int → Int) : ∃ t, Stab c ls g t := by
  obtain ⟨h, h0, h1⟩ := k.pot
  have hm : ∀ p ∈ nums c, max (g p) 0 ≤ sumN c fun o => max (g o) 0 := by
    unfold sumN
    intro p hp
    have : ∀ xs : List Int, p ∈ xs → max (g p) 0 ≤ (xs.map fun o => max (g o) 0).sum := fun xs => by
      induction xs with
      | nil => intro h; cases h
      | cons x xs ih =>
        intro h
        rw [List.map_cons, List.sum_cons]
        have hn := sum_map_nonneg (fun o => max (g o) 0) xs fun o _ => Int.le_max_right _ _
        rcases List.mem_cons.mp h with rfl | h
        · omega
        · have := ih h
          have := Int.le_max_right (g x) 0
          omega
    exact this _ hp
  refine ⟨fun p => (sumN c fun o => max (g o) 0) * h p, fun p hp => Int.mul_nonneg (by have := hm p hp; omega) (h0 p hp), fun p hp => ?_⟩
  rw [fo_eq, inc_mul]
  have h2 := h1 p hp
  have h3 := hm p hp
  have h4 := k.s1 p hp
  have h5 : (sumN c fun o => max (g o) 0) * (inc c ls h p + 1) ≤ (sumN c fun o => max (g o) 0) * (h p * sz ls p) := Int.mul_le_mul_of_nonneg_left h2 (by omega)
  rw [Int.mul_add, Int.mul_one] at h5
  rw [Int.mul_assoc]
  omega
structure Odo (c : Int) (ls : List Lk) (g u : Int → Int) : Prop where
  st : Stab c ls g u
  nn : ∀ p ∈ nums c, 0 ≤ fo c ls g u p
  le : ∀ t, Stab c ls g t → ∀ p ∈ nums c, u p ≤ t p
theorem Odo.uniq {c : Int} {ls : List Lk} {g u v : Int → Int} (a : Odo c ls g u) (b : Odo c ls g v) : ∀ p ∈ nums c, u p = v p := fun p hp =>
  Int.le_antisymm (a.le v b.st p hp) (b.le u a.st p hp)
theorem encF_congr {c : Int} {f h : Int → Int} (e : ∀ p ∈ nums c, f p = h p) : encF c f = encF c h := by
  unfold encF
  rw [List.map_congr_left e]
def encI (c : Int) (u : Int → Int) : D := .list ((nums c).map fun p => .int (u p))
theorem zip_I (c : Int) (f h : Int → Int) : zipD (encI c f) (encI c h) = some ((nums c).map fun p => .tuple [.int (f p), .int (h p)]) := by
  show some _ = _
  rw [zip_map]
end Pe

set_option maxHeartbeats 4400000
namespace Pe
open Dn
open PySem (PyData)
theorem sum_lt {c : Int} {f h : Int → Int} (h1 : ∀ p ∈ nums c, f p ≤ h p) (h2 : ∃ p ∈ nums c, f p < h p) : sumN c f < sumN c h := sum_map_lt f h _ h1 h2
theorem repL_one {α : Type} (x : α) : ∀ n : Nat, repL n [x] = List.replicate n x
  | 0 => rfl
  | n + 1 => by
    have ih := repL_one x n
    unfold repL at ih ⊢
    rw [List.replicate_succ, List.flatten_cons, ih]
    rfl
theorem enc0 (c : Int) : PyData.list (repL c.toNat [PyData.int 0]) = encI c fun _ => 0 := by
  unfold encI
  rw [repL_one]
  have : (nums c).map (fun _ => PyData.int 0) = List.replicate (nums c).length (PyData.int 0) := List.map_const' ..
  rw [this, nums_len]
theorem tupI (c : Int) (f : Int → Int) : tupD (encI c f) = some (encF c f) := by
  show some _ = some _
  unfold encF encG
  rw [List.map_map]
  rfl
end Pe

set_option maxHeartbeats 4400000
namespace Pe
open Dn
open PySem (PyData)
/-! ### settling first -/
theorem Odo.congr {c : Int} {ls : List Lk} {g g' u u' : Int → Int} (h : ∀ p ∈ nums c, g p = g' p) (hu : ∀ p ∈ nums c, u p = u' p) (a : Odo c ls g u) : Odo c ls g' u' := by
  refine ⟨⟨fun p hp => ?_, fun p hp => ?_⟩, fun p hp => ?_, fun t ht p hp => ?_⟩
  · rw [← hu p hp]
    exact a.st.1 p hp
  · rw [← fo_congr hp (h p hp) hu]
    exact a.st.2 p hp
  · rw [← fo_congr hp (h p hp) hu]
    exact a.nn p hp
  · rw [← hu p hp]
    refine a.le t ⟨ht.1, fun q hq => ?_⟩ p hp
    rw [fo_congr hq (h q hq) fun _ _ => rfl]
    exact ht.2 q hq
theorem fo_plus (c : Int) (ls : List Lk) (g h t : Int → Int) (p : Int) : fo c ls (fun p => g p + h p) t p = fo c ls g t p + h p := by
  rw [fo_eq, fo_eq]
  omega
theorem Odo.then {c : Int} {ls : List Lk} {g h u v : Int → Int} (hh : ∀ p ∈ nums c, 0 ≤ h p) (a : Odo c ls g u) (b : Odo c ls (fun p => fo c ls g u p + h p) v) : Odo c ls (fun p => g p + h p) fun p => u p + v p := by
  have e : ∀ w, fo c ls (fun p => g p + h p) (fun p => u p + w p) = fo c ls (fun p => fo c ls g u p + h p) w := fun w => by
    funext p
    rw [fo_add]
    have : fo c ls (fun p => g p + h p) u = fun p => fo c ls g u p + h p := funext fun q => fo_plus c ls g h u q
    rw [this]
  refine ⟨⟨fun p hp => ?_, fun p hp => ?_⟩, fun p hp => ?_, fun t ht p hp => ?_⟩
  · have := a.st.1 p hp
    have := b.st.1 p hp
    show 0 ≤ u p + v p
    omega
  · rw [e]
    exact b.st.2 p hp
  · rw [e]
    exact b.nn p hp
  · have h1 : ∀ q ∈ nums c, u q ≤ t q := a.le t ⟨ht.1, fun q hq => by
      have := ht.2 q hq
      rw [fo_plus] at this
      have := hh q hq
      omega⟩
    have h2 := b.le (fun q => t q - u q) ⟨fun q hq => by have := h1 q hq; show 0 ≤ t q - u q; omega, fun q hq => by
      have := ht.2 q hq
      rw [← e]
      have e2 : (fun p => u p + (t p - u p)) = t := funext fun p => by omega
      rw [e2]
      exact this⟩ p hp
    show u p + v p ≤ t p
    have h2' : v p ≤ t p - u p := h2
    omega
def EqP (c : Int) (f h : Int → Int) : Prop := ∀ p ∈ nums c, f p = h p
def NN (c : Int) (f : Int → Int) : Prop := ∀ p ∈ nums c, 0 ≤ f p
theorem NN.add {c : Int} {f h : Int → Int} (a : NN c f) (b : NN c h) : NN c fun p => f p + h p := fun p hp => by
  have := a p hp
  have := b p hp
  show 0 ≤ f p + h p
  omega
theorem EqP.symm {c : Int} {f h : Int → Int} (a : EqP c f h) : EqP c h f := fun p hp => (a p hp).symm
theorem EqP.trans {c : Int} {f h k : Int → Int} (a : EqP c f h) (b : EqP c h k) : EqP c f k := fun p hp => (a p hp).trans (b p hp)
theorem EqP.add {c : Int} {f h f' h' : Int → Int} (a : EqP c f f') (b : EqP c h h') : EqP c (fun p => f p + h p) fun p => f' p + h' p := fun p hp => by
  show f p + h p = f' p + h' p
  rw [a p hp, b p hp]
theorem EqP.rfl {c : Int} {f : Int → Int} : EqP c f f := fun _ _ => _root_.rfl
/-! equality of data -/
theorem plainG : ∀ g : List Int, PyData.plainAll (g.map .int) = true
  | [] => rfl
  | n :: g => by
    rw [List.map_cons]
    simp [PyData.plainAll, PyData.plain, plainG g]
theorem depthG : ∀ g : List Int, PyData.depthAll (g.map .int) = 0
  | [] => rfl
  | n :: g => by
    rw [List.map_cons]
    simp [PyData.depthAll, PyData.depth, depthG g]
theorem eqvG : ∀ g : List Int, PyData.eqvAll (g.map .int) (g.map .int) = true
  | [] => rfl
  | n :: g => by
    rw [List.map_cons]
    simp [PyData.eqvAll, PyData.eqv, eqvG g]
theorem okF (c : Int) (f : Int → Int) : okD (encF c f) = true := by
  unfold okD encF encG
  simp [-List.map_map, PyData.plain, PyData.depth, plainG, depthG]
theorem eqvF (c : Int) (f : Int → Int) : PyData.eqv (encF c f) (encF c f) = true := by
  unfold encF encG
  simp [-List.map_map, PyData.eqv, eqvG]
theorem eqF {c : Int} {f h : Int → Int} (e : EqP c f h) : eqD (encF c f) (encF c h) = some (.bool true) := by
  rw [← encF_congr e]
  unfold eqD
  rw [okF, eqvF]
  rfl
theorem neF {c : Int} {f h : Int → Int} (e : EqP c f h) : neD (encF c f) (encF c h) = some (.bool false) := by
  rw [← encF_congr e]
  unfold neD
  rw [okF, eqvF]
  rfl
theorem eqF2 {c : Int} {f h f' h' : Int → Int} (e : EqP c f f') (e' : EqP c h h') : eqD (.tuple [encF c f, encF c h]) (.tuple [encF c f', encF c h']) = some (.bool true) := by
  rw [← encF_congr e, ← encF_congr e']
  unfold eqD
  have : okD (.tuple [encF c f, encF c h]) = true := by
    have h1 := okF c f
    have h2 := okF c h
    unfold okD at h1 h2 ⊢
    simp [PyData.plain, PyData.plainAll, PyData.depth, PyData.depthAll] at h1 h2 ⊢
    simp [-List.map_map, encF, encG, PyData.plain, PyData.depth, plainG, depthG]
  rw [this]
  simp [PyData.eqv, PyData.eqvAll, eqvF]
end Pe

set_option maxHeartbeats 4400000
namespace Pe
open Dn
open PySem (PyData)
/-! ### the draws -/
@[simp] theorem modI {a b : Int} (h : 0 < b) : modD (.int a) (.int b) = some (.int (a % b)) := if_pos h
def dr0 (n k : Int) : Int := ((n + 104729 * k + 17) * 69621) % 2147483647
def dr (n k : Int) : Int := (dr0 n k * dr0 n k + 3 * dr0 n k + k) % 2147483629
theorem dr_bd (n k : Int) : 0 ≤ dr n k ∧ dr n k < 2147483629 := by
  unfold dr
  exact ⟨Int.emod_nonneg _ (by decide), Int.emod_lt_of_pos _ (by decide)⟩
theorem dr0_bd (n k : Int) : 0 ≤ dr0 n k ∧ dr0 n k < 2147483647 := by
  unfold dr0
  exact ⟨Int.emod_nonneg _ (by decide), Int.emod_lt_of_pos _ (by decide)⟩
theorem mul_l {a b : Int} (h : -(2 ^ 64) < a ∧ a < 2 ^ 64) : mulD (.int a) (.int b) = some (.int (a * b)) := by
  have e : smallI a = true := by
    unfold smallI
    rw [decide_eq_true h.1, decide_eq_true h.2]
    rfl
  show (if (smallI a || smallI b) = true then some (PyData.int (a * b)) else none) = _
  rw [if_pos (by rw [e, Bool.true_or])]
theorem ev_drawn (n k : Int) : Dg.L_drawn [.int n, .int k] = some (.ok (.int (dr n k))) := by
  refine runF_ok rfl ?_
  show Dg.b_L_drawn [some (.dat (.int n)), some (.dat (.int k)), none] = _
  have h := dr0_bd n k
  unfold Dg.b_L_drawn
  simp only [ev_sSeq, ev_sAsg, ev_e2, ev_varW, ev_var, ev_c, List.getElem?_cons_succ, List.getElem?_cons_zero, ev_ret, bnd_ok, mul_l (a := 104729) (b := k) (by decide), ev_addI, lft_some, mulD_small (a := n + 104729 * k + 17) (b := 69621) (by decide), modI (a := (n + 104729 * k + 17) * 69621) (b := 2147483647) (by decide), bS_ok, ev_gName, Option.map_some, List.set_cons_succ, List.set_cons_zero]
  show sRet _ [some (.dat (.int n)), some (.dat (.int k)), some (.dat (.int (dr0 n k)))] = _
  simp only [ev_sRet, ev_e2, ev_varW, ev_var, ev_c, List.getElem?_cons_succ, List.getElem?_cons_zero, ev_ret, bnd_ok, mul_l (a := 3) (b := dr0 n k) (by decide), mulD_small (a := dr0 n k) (b := dr0 n k) (by omega), ev_addI, lft_some, modI (a := dr0 n k * dr0 n k + 3 * dr0 n k + k) (b := 2147483629) (by decide), bS_ok]
  rfl
theorem ev_cell (ns : List Int) (k : Nat) : ∃ v, Dg.L_cell_at [.list (ns.map .int), .int k] = some (.ok (.int v)) := by
  have hb : ∃ v : Int, Dg.b_L_cell_at [some (.dat (.list (ns.map .int))), some (.dat (.int k))] = some (.rt (.int v)) := by
    unfold Dg.b_L_cell_at
    by_cases h : k < ns.length
    · refine ⟨ns[k], ?_⟩
      have hx : ixD (.list (ns.map .int)) (.int k) = some (.int ns[k]) := by
        simp [ixD, ixNat, h]
      have hi : (k : Int) < (ns.length : Int) := by omega
      simp [lenD, hi, hx]
    · refine ⟨0, ?_⟩
      have hi : ¬ (k : Int) < (ns.length : Int) := by omega
      simp [lenD, hi]
  obtain ⟨v, h⟩ := hb
  exact ⟨v, runF_ok rfl h⟩
theorem ev_mixed (ns : List Int) (k : Nat) : ∃ v, Dg.L_mixed [.list (ns.map .int), .int k] = some (.ok (.int v)) ∧ 0 ≤ v ∧ v < 2147483629 := by
  obtain ⟨w, hw⟩ := ev_cell ns k
  generalize hd : ((w + 7919 * (k : Int) + 1) * 48271) % 2147483647 = d
  have h0 : 0 ≤ d ∧ d < 2147483647 := by
    subst hd
    exact ⟨Int.emod_nonneg _ (by decide), Int.emod_lt_of_pos _ (by decide)⟩
  refine ⟨(d * d + 7 * d + k) % 2147483629, runF_ok rfl ?_, Int.emod_nonneg _ (by decide), Int.emod_lt_of_pos _ (by decide)⟩
  show Dg.b_L_mixed [some (.dat (.list (ns.map .int))), some (.dat (.int k)), none] = _
  unfold Dg.b_L_mixed
  simp only [ev_sSeq, ev_sAsg, ev_e2, ev_varW, ev_var, ev_c, ev_call, ev_aCons, ev_aNil, hw, List.getElem?_cons_succ, List.getElem?_cons_zero, ev_ret, bnd_ok, mul_l (a := 7919) (b := k) (by decide), ev_addI, lft_some, mulD_small (a := w + 7919 * k + 1) (b := 48271) (by decide), modI (a := (w + 7919 * k + 1) * 48271) (b := 2147483647) (by decide), bS_ok, ev_gName, Option.map_some, List.set_cons_succ, List.set_cons_zero]
  rw [hd]
  simp only [ev_sRet, ev_e2, ev_varW, ev_var, ev_c, List.getElem?_cons_succ, List.getElem?_cons_zero, ev_ret, bnd_ok, mul_l (a := 7) (b := d) (by decide), mulD_small (a := d) (b := d) (by omega), ev_addI, lft_some, modI (a := d * d + 7 * d + k) (b := 2147483629) (by decide), bS_ok]
theorem rgL0 (c : Int) : rgL 0 c = (nums c).map fun p => .int (p - 1) := by
  unfold rgL nums
  rw [Int.sub_zero, List.map_map]
  refine List.map_congr_left fun i _ => ?_
  show PyData.int (0 + (i : Int)) = PyData.int (1 + (i : Int) - 1)
  congr 1
  omega
theorem rng0 {c : Int} (h1 : 0 ≤ c) (h2 : c ≤ 100) : rangeD (.int 0) (.int c) = some ((nums c).map fun p => .int (p - 1)) := by
  have e : (rgOk 0 && rgOk c) = true := by
    simp [rgOk]
    omega
  show (if (rgOk 0 && rgOk c) = true then some (rgL 0 c) else none) = _
  rw [if_pos e, rgL0]
def grn (n most p : Int) : Int := dr n (50 + (p - 1)) % (most + 1)
theorem ev_grains {c : Int} (h1 : 0 ≤ c) (h2 : c ≤ 100) (n : Int) {most : Int} (hm : 0 ≤ most) : Dg.L_grains [.int n, .int c, .int most] = some (.ok (encF c (grn n most))) := by
  refine runF_ok rfl ?_
  show Dg.b_L_grains [some (.dat (.int n)), some (.dat (.int c)), some (.dat (.int most)), none] = _
  have hlen : (nums c).length ≤ 1000000 := by rw [nums_len]; omega
  have hpos : 0 < most + 1 := by omega
  have hc := compL_all (g := gName 3) (f := e2 modD (eCall Dg.L_drawn (aCons (eVar 0) (aCons (e2 addD (eC (.int 50)) (eVarW 3)) aNil))) (e2 addD (eVarW 2) (eC (.int 1)))) (fun p => PyData.int (p - 1)) [some (.dat (.int n)), some (.dat (.int c)), some (.dat (.int most)), none] (fun p => .int (grn n most p)) (nums c) (fun p hp => ⟨[some (.dat (.int n)), some (.dat (.int c)), some (.dat (.int most)), some (.dat (.int (p - 1)))], by simp, by simp [ev_drawn, hpos, grn]⟩)
  have e1 : PyData.list ((nums c).map fun p => PyData.int (grn n most p)) = encI c (grn n most) := rfl
  unfold Dg.b_L_grains
  simp only [ev_sRet, ev_e1, ev_comp, ev_iRng1, ev_varW, ev_var, List.getElem?_cons_succ, List.getElem?_cons_zero, ev_ret, bnd_ok, rng0 h1 h2, lft_some, List.length_map, if_pos hlen, ev_wipe0, ev_wipe1, List.set_cons_succ, List.set_cons_zero]
  rw [hc]
  simp only [bnd_ok, e1, tupI, lft_some, bS_ok]
theorem grn_nn (c n : Int) {most : Int} (hm : 0 ≤ most) : NN c (grn n most) := fun p _ => Int.emod_nonneg _ (by omega)
end Pe

set_option maxHeartbeats 4400000
namespace Pe
open Dn
open PySem (PyData)
/-! ### sums over lists -/
section
variable {α : Type}
theorem su_add (f h : α → Int) : ∀ xs : List α, (xs.map fun x => f x + h x).sum = (xs.map f).sum + (xs.map h).sum
  | [] => rfl
  | x :: xs => by
    simp only [List.map_cons, List.sum_cons, su_add f h xs]
    omega
theorem su_mul (k : Int) (f : α → Int) : ∀ xs : List α, (xs.map fun x => k * f x).sum = k * (xs.map f).sum
  | [] => by simp
  | x :: xs => by
    simp only [List.map_cons, List.sum_cons, su_mul k f xs, Int.mul_add]
theorem su_le (f h : α → Int) : ∀ xs : List α, (∀ x ∈ xs, f x ≤ h x) → (xs.map f).sum ≤ (xs.map h).sum
  | [], _ => Int.le_refl _
  | x :: xs, k => by
    have := k x List.mem_cons_self
    have := su_le f h xs fun y hy => k y (List.mem_cons_of_mem _ hy)
    simp only [List.map_cons, List.sum_cons]
    omega
theorem su_perm : ∀ {xs ys : List Int}, xs.Perm ys → xs.sum = ys.sum := fun h => by
  induction h with
  | nil => rfl
  | cons x _ ih => rw [List.sum_cons, List.sum_cons, ih]
  | swap x y l =>
    simp only [List.sum_cons]
    omega
  | trans _ _ i j => exact i.trans j
theorem su_low (f : α → Int) {K : Int} (hK : 0 ≤ K) : ∀ xs : List α, (∀ x ∈ xs, -K ≤ f x) → -(K * xs.length) ≤ (xs.map f).sum
  | [], _ => by simp
  | x :: xs, k => by
    have h1 := k x List.mem_cons_self
    have h2 := su_low f hK xs fun y hy => k y (List.mem_cons_of_mem _ hy)
    rw [List.map_cons, List.sum_cons, List.length_cons]
    have e : K * ((xs.length + 1 : Nat) : Int) = K * xs.length + K := by
      rw [Int.natCast_add, Int.mul_add]
      simp
    omega
theorem su_one (f : α → Int) {K M : Int} (hK : 0 ≤ K) : ∀ xs : List α, (∀ x ∈ xs, -K ≤ f x) → (∃ x ∈ xs, M ≤ f x) → M - K * xs.length ≤ (xs.map f).sum
  | [], _, ⟨x, hx, _⟩ => by cases hx
  | x :: xs, k, ⟨y, hy, hm⟩ => by
    have h1 := k x List.mem_cons_self
    have h2 := su_low f hK xs fun y hy => k y (List.mem_cons_of_mem _ hy)
    rw [List.map_cons, List.sum_cons, List.length_cons]
    have e : K * ((xs.length + 1 : Nat) : Int) = K * xs.length + K := by
      rw [Int.natCast_add, Int.mul_add]
      simp
    rcases List.mem_cons.mp hy with rfl | hy
    · omega
    · have := su_one f hK xs (fun y hy => k y (List.mem_cons_of_mem _ hy)) ⟨y, hy, hm⟩
      omega
end
/-! ### the yard's dict -/
abbrev Ent := Int × Int × Int
def ky (e : Ent) : Int × Int := (e.1, e.2.1)
def ND (es : List Ent) : Prop := (es.map ky).Nodup
def encT (es : List Ent) : List (List Int × D) := es.map fun e => ([e.1, e.2.1], PyData.int e.2.2)
theorem putT_enc (es : List Ent) (a b v : Int) : ∃ es', putT (encT es) [a, b] (.int v) = encT es' ∧ es'.length ≤ es.length + 1 ∧ (∀ e ∈ es', e ∈ es ∨ e = (a, b, v)) ∧ (∃ e ∈ es', e.2.1 = b) ∧ (∀ r, (∃ e ∈ es, e.2.1 = r) → ∃ e ∈ es', e.2.1 = r) ∧ (ND es → ND es') := by
  unfold putT
  by_cases h : (encT es).any (fun kv => decide (kv.1 = [a, b])) = true
  · rw [if_pos h]
    refine ⟨es.map fun e => if e.1 = a ∧ e.2.1 = b then (a, b, v) else e, ?_, by rw [List.length_map]; omega, fun e he => ?_, ?_, fun r ⟨e, he, hr⟩ => ?_, fun hn => ?_⟩
    · unfold encT
      rw [List.map_map, List.map_map]
      refine List.map_congr_left fun e _ => ?_
      show (if [e.1, e.2.1] = [a, b] then ([e.1, e.2.1], PyData.int v) else ([e.1, e.2.1], PyData.int e.2.2)) = _
      by_cases q : e.1 = a ∧ e.2.1 = b
      · have q1 : [e.1, e.2.1] = [a, b] := by rw [q.1, q.2]
        rw [if_pos q1]
        simp only [Function.comp, if_pos q]
        rw [q.1, q.2]
      · have q1 : ¬ [e.1, e.2.1] = [a, b] := fun hq => by
          injection hq with q2 q3
          injection q3 with q3 _
          exact q ⟨q2, q3⟩
        rw [if_neg q1]
        simp only [Function.comp, if_neg q]
    · obtain ⟨e0, h0, rfl⟩ := List.mem_map.mp he
      split
      · exact .inr rfl
      · exact .inl h0
    · obtain ⟨kv, hk, he⟩ := List.any_eq_true.mp h
      unfold encT at hk
      obtain ⟨e, h0, rfl⟩ := List.mem_map.mp hk
      have he := of_decide_eq_true he
      injection he with q2 q3
      injection q3 with q3 _
      refine ⟨_, List.mem_map.mpr ⟨e, h0, rfl⟩, ?_⟩
      rw [if_pos ⟨q2, q3⟩]
    · refine ⟨_, List.mem_map.mpr ⟨e, he, rfl⟩, ?_⟩
      split
      · rename_i q
        rw [← hr, q.2]
      · exact hr
    · unfold ND at hn ⊢
      rw [List.map_map]
      have : es.map (ky ∘ fun e => if e.1 = a ∧ e.2.1 = b then (a, b, v) else e) = es.map ky := List.map_congr_left fun e _ => by
        show ky (if e.1 = a ∧ e.2.1 = b then (a, b, v) else e) = ky e
        split
        · rename_i q
          show (a, b) = (e.1, e.2.1)
          rw [q.1, q.2]
        · rfl
      rw [this]
      exact hn
  · rw [if_neg h]
    refine ⟨es ++ [(a, b, v)], ?_, by rw [List.length_append, List.length_singleton]; omega, fun e he => ?_, ⟨(a, b, v), List.mem_append_right _ List.mem_cons_self, rfl⟩, fun r ⟨e, he, hr⟩ => ⟨e, List.mem_append_left _ he, hr⟩, fun hn => ?_⟩
    · unfold encT
      rw [List.map_append]
      rfl
    · rcases List.mem_append.mp he with h1 | h1
      · exact .inl h1
      · exact .inr (List.mem_singleton.mp h1)
    · unfold ND at hn ⊢
      rw [List.map_append, List.nodup_append]
      refine ⟨hn, by simp, fun x hx y hy q => ?_⟩
      rw [List.map_singleton, List.mem_singleton] at hy
      obtain ⟨e, he, rfl⟩ := List.mem_map.mp hx
      rw [hy] at q
      apply h
      refine List.any_eq_true.mpr ⟨([e.1, e.2.1], .int e.2.2), List.mem_map.mpr ⟨e, he, rfl⟩, ?_⟩
      have q1 : e.1 = a := congrArg Prod.fst q
      have q2 : e.2.1 = b := congrArg Prod.snd q
      rw [q1, q2]
      simp
theorem getT_enc : ∀ (es : List Ent) {e : Ent}, e ∈ es → ∃ e' ∈ es, getT (encT es) [e.1, e.2.1] = some (.int e'.2.2)
  | [], _, h => by cases h
  | e0 :: es, e, h => by
    by_cases q : [e0.1, e0.2.1] = [e.1, e.2.1]
    · refine ⟨e0, List.mem_cons_self, ?_⟩
      unfold getT encT
      rw [List.map_cons, List.find?_cons_of_pos (by simpa using q)]
      rfl
    · have hm : e ∈ es := by
        rcases List.mem_cons.mp h with rfl | h
        · exact absurd rfl q
        · exact h
      obtain ⟨e', h1, h2⟩ := getT_enc es hm
      refine ⟨e', List.mem_cons_of_mem _ h1, ?_⟩
      unfold getT encT at h2 ⊢
      rw [List.map_cons, List.find?_cons_of_neg (by simpa using q)]
      exact h2
/-! ### a yard's tumbling ends -/
def oth (l : Lk) (p : Int) : Int := if l.1 = p then l.2.1 else l.1
theorem ind_le {q x : Int} (hx : 0 ≤ x) : ∀ xs : List Int, xs.Nodup → (xs.map fun o => if o = q then x else 0).sum ≤ x
  | [], _ => by simpa using hx
  | y :: xs, h => by
    rw [List.nodup_cons] at h
    rw [List.map_cons, List.sum_cons]
    by_cases e : y = q
    · rw [if_pos e]
      have : (xs.map fun o => if o = q then x else 0) = xs.map fun _ => 0 := List.map_congr_left fun o ho => by
        rw [if_neg]
        rintro rfl
        rw [e] at h
        exact h.1 ho
      rw [this]
      have : (xs.map fun _ => (0 : Int)).sum = 0 := by
        have := su_mul (0 : Int) (fun _ : Int => 0) xs
        simp only [Int.zero_mul] at this
        exact this
      omega
    · rw [if_neg e]
      have := ind_le (q := q) hx xs h.2
      omega
theorem nums_nodup (c : Int) : (nums c).Nodup := by
  unfold nums
  rw [List.nodup_iff_pairwise_ne, List.pairwise_map]
  refine List.Pairwise.imp ?_ List.nodup_range
  intro a b h e
  exact h (by omega)
theorem btw_cons (l : Lk) (r : List Lk) (i j : Int) : btw (l :: r) i j = if l.1 = min i j ∧ l.2.1 = max i j then l.2.2 else btw r i j := rfl
theorem inc_le {c : Int} {h : Int → Int} (hh : ∀ o, 0 ≤ h o) (p : Int) : ∀ ls : List Lk, (∀ l ∈ ls, l.1 < l.2.1 ∧ 0 ≤ l.2.2 ∧ l.2.2 ≤ 100) → inc c ls h p ≤ ((ls.filter fun l => l.1 == p || l.2.1 == p).map fun l => h (oth l p) * l.2.2).sum
  | [], _ => by
    unfold inc sumN
    have : ((nums c).map fun o => if o = p then 0 else h o * btw [] p o) = (nums c).map fun _ => 0 := List.map_congr_left fun o _ => by
      show (if o = p then 0 else h o * 0) = 0
      rw [Int.mul_zero]
      split <;> rfl
    rw [this]
    have := su_mul (0 : Int) (fun _ : Int => 0) (nums c)
    simp only [Int.zero_mul] at this
    rw [this]
    exact Int.le_refl _
  | l :: r, k => by
    have ih := inc_le (c := c) hh p r fun l hl => k l (List.mem_cons_of_mem _ hl)
    have kl := k l List.mem_cons_self
    have hb := fun o => btw_bound (ls := r) (fun l hl => (k l (List.mem_cons_of_mem _ hl)).2) p o
    by_cases hi : l.1 = p ∨ l.2.1 = p
    · have e : (l.1 == p || l.2.1 == p) = true := by simpa using hi
      rw [List.filter_cons_of_pos (by simpa using hi), List.map_cons, List.sum_cons]
      have hx : 0 ≤ h (oth l p) * l.2.2 := Int.mul_nonneg (hh _) kl.2.1
      have h1 : inc c (l :: r) h p ≤ (((nums c).map fun o => (if o = p then 0 else h o * btw r p o) + (if o = oth l p then h (oth l p) * l.2.2 else 0))).sum := by
        unfold inc sumN
        refine su_le _ _ _ fun o _ => ?_
        by_cases ho : o = p
        · rw [if_pos ho, if_pos ho]
          split <;> omega
        · rw [if_neg ho, if_neg ho]
          rw [btw_cons]
          by_cases hq : l.1 = min p o ∧ l.2.1 = max p o
          · rw [if_pos hq]
            have : o = oth l p := by
              unfold oth
              split <;> omega
            rw [if_pos this, ← this]
            have := Int.mul_nonneg (hh o) (hb o).1
            omega
          · rw [if_neg hq]
            split <;> omega
      rw [su_add] at h1
      have h2 := ind_le (q := oth l p) hx (nums c) (nums_nodup c)
      unfold inc sumN at ih
      omega
    · rw [List.filter_cons_of_neg (by simpa using hi)]
      have h1 : inc c (l :: r) h p = inc c r h p := by
        unfold inc sumN
        refine congrArg List.sum (List.map_congr_left fun o _ => ?_)
        by_cases ho : o = p
        · rw [if_pos ho, if_pos ho]
        · rw [if_neg ho, if_neg ho]
          have hq : ¬ (l.1 = min p o ∧ l.2.1 = max p o) := by omega
          have : btw (l :: r) p o = btw r p o := if_neg hq
          rw [this]
      omega
/-- what makes a yard: ranks -/
theorem mkY {c : Int} {ls : List Lk} (rk : Int → Int) (h1 : 1 ≤ c) (h2 : c ≤ 100) (hl : ls.length ≤ 1000) (hm : ∀ l ∈ ls, l.1 < l.2.1 ∧ 1 ≤ l.2.2 ∧ l.2.2 ≤ 100)
    (hr : ∀ o, 0 ≤ rk o ∧ rk o ≤ c) (hp : ∀ p ∈ nums c, ∃ l ∈ ls, (l.1 = p ∨ l.2.1 = p) ∧ rk (oth l p) < rk p) : Y c ls := by
  have hin : ∀ p ∈ nums c, ∃ l ∈ ls.filter (fun l => l.1 == p || l.2.1 == p), rk (oth l p) < rk p := fun p h => by
    obtain ⟨l, h3, h4, h5⟩ := hp p h
    exact ⟨l, List.mem_filter.mpr ⟨h3, by simpa using h4⟩, h5⟩
  have hfl : ∀ p, (ls.filter (fun l => l.1 == p || l.2.1 == p)).length ≤ 1000 := fun p => Nat.le_trans (List.length_filter_le _ _) hl
  have hfm : ∀ p, ∀ l ∈ ls.filter (fun l => l.1 == p || l.2.1 == p), 1 ≤ l.2.2 ∧ l.2.2 ≤ 100 := fun p l h => (hm l (List.mem_filter.mp h).1).2
  refine { c1 := h1, c2 := h2, l1 := hl, m1 := fun l h => ⟨by have := hm l h; omega, (hm l h).2.2⟩, s1 := fun p h => ?_, pot := ?_ }
  · obtain ⟨l, h3, _⟩ := hin p h
    have := su_one (fun l : Lk => l.2.2) (K := 0) (M := 1) (Int.le_refl _) _ (fun l h => by have := hfm p l h; omega) ⟨l, h3, (hfm p l h3).1⟩
    unfold sz
    omega
  · let W : Int → Int := fun i => ((100002 ^ (c.toNat - i.toNat) : Nat) : Int)
    have W1 : ∀ i, 1 ≤ W i := fun i => by
      have : 0 < 100002 ^ (c.toNat - i.toNat) := Nat.pow_pos (by decide)
      show (1 : Int) ≤ ((100002 ^ (c.toNat - i.toNat) : Nat) : Int)
      omega
    have W2 : ∀ i, W i ≤ W 0 := fun i => by
      have : 100002 ^ (c.toNat - i.toNat) ≤ 100002 ^ (c.toNat - (0 : Int).toNat) := Nat.pow_le_pow_right (by decide) (by omega)
      exact Int.ofNat_le.mpr this
    have W3 : ∀ i j, 0 ≤ i → i < j → j ≤ c → 100002 * W j ≤ W i := fun i j a b d => by
      have e : 100002 * 100002 ^ (c.toNat - j.toNat) = 100002 ^ (c.toNat - j.toNat + 1) := by rw [Nat.pow_succ, Nat.mul_comm]
      have : 100002 ^ (c.toNat - j.toNat + 1) ≤ 100002 ^ (c.toNat - i.toNat) := Nat.pow_le_pow_right (by decide) (by omega)
      rw [← e] at this
      have := Int.ofNat_le.mpr this
      rw [Int.natCast_mul] at this
      exact this
    refine ⟨fun o => W 0 - W (rk o), fun p _ => by have := W2 (rk p); show 0 ≤ W 0 - W (rk p); omega, fun p h => ?_⟩
    have hi := inc_le (c := c) (h := fun o => W 0 - W (rk o)) (fun o => by have := W2 (rk o); show 0 ≤ W 0 - W (rk o); omega) p ls fun l h => ⟨(hm l h).1, by have := hm l h; omega, (hm l h).2.2⟩
    have hX := W1 (rk p)
    have hs := su_one (fun l : Lk => (W (rk (oth l p)) - W (rk p)) * l.2.2) (K := (W (rk p) - 1) * 100) (M := 100001 * W (rk p)) (by omega) (ls.filter fun l => l.1 == p || l.2.1 == p) (fun l h => by
        have hv := hfm p l h
        have hw := W1 (rk (oth l p))
        have a1 : -(W (rk p) - 1) * l.2.2 ≤ (W (rk (oth l p)) - W (rk p)) * l.2.2 := Int.mul_le_mul_of_nonneg_right (by omega) (by omega)
        have a2 : (W (rk p) - 1) * l.2.2 ≤ (W (rk p) - 1) * 100 := Int.mul_le_mul_of_nonneg_left (by omega) (by omega)
        rw [Int.neg_mul] at a1
        show -((W (rk p) - 1) * 100) ≤ (W (rk (oth l p)) - W (rk p)) * l.2.2
        omega) (by
        obtain ⟨l, h3, h4⟩ := hin p h
        refine ⟨l, h3, ?_⟩
        have hv := hfm p l h3
        have hw := W3 (rk (oth l p)) (rk p) (hr _).1 h4 (hr _).2
        have a1 : (W (rk (oth l p)) - W (rk p)) * 1 ≤ (W (rk (oth l p)) - W (rk p)) * l.2.2 := Int.mul_le_mul_of_nonneg_left (by omega) (by omega)
        show 100001 * W (rk p) ≤ (W (rk (oth l p)) - W (rk p)) * l.2.2
        omega)
    have e : (((ls.filter fun l => l.1 == p || l.2.1 == p)).map fun l => (W 0 - W (rk p)) * l.2.2).sum = (W 0 - W (rk p)) * sz ls p := su_mul _ (fun l : Lk => l.2.2) _
    have e2 : (((ls.filter fun l => l.1 == p || l.2.1 == p)).map fun l => (W 0 - W (rk p)) * l.2.2).sum = (((ls.filter fun l => l.1 == p || l.2.1 == p)).map fun l => (W (rk (oth l p)) - W (rk p)) * l.2.2).sum + (((ls.filter fun l => l.1 == p || l.2.1 == p)).map fun l => (W 0 - W (rk (oth l p))) * l.2.2).sum := by
      rw [← su_add]
      refine congrArg List.sum (List.map_congr_left fun l _ => ?_)
      rw [← Int.add_mul]
      congr 1
      omega
    have hk : (W (rk p) - 1) * 100 * ((ls.filter fun l => l.1 == p || l.2.1 == p).length : Int) ≤ (W (rk p) - 1) * 100 * 1000 := Int.mul_le_mul_of_nonneg_left (by have := hfl p; omega) (by omega)
    show inc c ls (fun o => W 0 - W (rk o)) p + 1 ≤ (W 0 - W (rk p)) * sz ls p
    have hi' : inc c ls (fun o => W 0 - W (rk o)) p ≤ (((ls.filter fun l => l.1 == p || l.2.1 == p)).map fun l => (W 0 - W (rk (oth l p))) * l.2.2).sum := hi
    omega
structure Z (c : Int) (ls : List Lk) : Prop extends Y c ls where
  rng : ∀ l ∈ ls, 0 ≤ l.1 ∧ l.1 < l.2.1 ∧ l.2.1 ≤ c
  dis : ND ls
end Pe

set_option maxHeartbeats 4400000
namespace Pe
open Dn
open PySem (PyData)
theorem forL_I {α : Type} {g : GF} {b : SF} (enc : α → D) (I : List α → Dn.Env → Prop) : ∀ (post pre : List α) (ρ : Dn.Env), I pre ρ → (∀ pr x po ρ, pre ++ post = pr ++ x :: po → I pr ρ → ∃ ρ1 ρ2, g (enc x) ρ = some ρ1 ∧ b ρ1 = some (.nx ρ2) ∧ I (pr ++ [x]) ρ2) →
    ∃ ρ', forL g b (post.map enc) ρ = some (.nx ρ') ∧ I (pre ++ post) ρ'
  | [], pre, ρ, i, _ => ⟨ρ, rfl, by rw [List.append_nil]; exact i⟩
  | x :: post, pre, ρ, i, h => by
    obtain ⟨ρ1, ρ2, h1, h2, i2⟩ := h pre x post ρ rfl i
    have e : pre ++ x :: post = (pre ++ [x]) ++ post := by simp
    rw [e] at h
    obtain ⟨ρ', h3, h4⟩ := forL_I enc I post (pre ++ [x]) ρ2 i2 h
    refine ⟨ρ', ?_, by rw [e]; exact h4⟩
    rw [List.map_cons]
    unfold forL
    rw [h1]
    simp only
    rw [h2]
    simp only
    exact h3
abbrev dm (t : Option D) : Option Sl := t.map Sl.dat
def yS (n m w c : Int) (s4 : Option Sl) (t5 t6 t7 t8 t9 t10 : Option D) (s11 : Option Sl) (t12 t13 : Option D) : Dn.Env :=
  [some (.dat (.int n)), some (.dat (.int m)), some (.dat (.int w)), some (.dat (.int c)), s4, dm t5, dm t6, dm t7, dm t8, dm t9, dm t10, s11, dm t12, dm t13]
def KE (c w : Int) (es : List Ent) : Prop := ∀ e ∈ es, 0 ≤ e.1 ∧ e.1 < e.2.1 ∧ e.2.1 ≤ c ∧ 1 ≤ e.2.2 ∧ e.2.2 ≤ w
noncomputable def bd_y1 : SF := (Dn.sDictSet 4 (Dn.e2 Dn.modD (Dn.eCall Dg.L_drawn (Dn.aCons (Dn.eVar 0) (Dn.aCons (Dn.eVar 5) Dn.aNil))) (Dn.eVarW 5)) (Dn.eVarW 5) (Dn.e2 Dn.addD (Dn.eC (.int 1)) (Dn.e2 Dn.modD (Dn.eCall Dg.L_drawn (Dn.aCons (Dn.eVar 0) (Dn.aCons (Dn.e2 Dn.addD (Dn.eC (.int 10)) (Dn.eVarW 5)) Dn.aNil))) (Dn.eVarW 2))))
theorem KE.put {c w : Int} {es es' : List Ent} (k : KE c w es) {a b v : Int} (h : 0 ≤ a ∧ a < b ∧ b ≤ c ∧ 1 ≤ v ∧ v ≤ w) (h2 : ∀ e ∈ es', e ∈ es ∨ e = (a, b, v)) : KE c w es' := fun e he => by
  rcases h2 e he with h3 | rfl
  · exact k e h3
  · exact h
theorem bd_of {w x : Int} (hw : 1 ≤ w) (v : Int) : 1 ≤ 1 + v % w ∧ 1 + v % w ≤ w := by
  have h1 := Int.emod_nonneg v (b := w) (by omega)
  have h2 := Int.emod_lt_of_pos v (b := w) (by omega)
  omega
theorem encT_len (es : List Ent) : (encT es).length = es.length := List.length_map ..
def I1 (n m w c : Int) (pre : List Int) (ρ : Dn.Env) : Prop := ∃ (es : List Ent) (t5 : Option D), ρ = yS n m w c (some (.ownT (encT es))) t5 none none none none none none none none ∧ es.length ≤ pre.length ∧ KE c w es ∧ ND es ∧ ∀ r ∈ pre, ∃ e ∈ es, e.2.1 = r
theorem lp_y1 {n m w c : Int} (hc : c ≤ 100) (hw : 1 ≤ w) : ∃ ρ', forL (gName 5) bd_y1 ((nums c).map .int) (yS n m w c (some (.ownT [])) none none none none none none none none none) = some (.nx ρ') ∧ I1 n m w c (nums c) ρ' := by
  have hl : (nums c).length ≤ 100 := by rw [nums_len]; omega
  refine forL_I PyData.int (I1 n m w c) (nums c) [] _ ⟨[], none, rfl, Nat.le_refl _, (fun e he => by cases he), List.nodup_nil, (fun r hr => by cases hr)⟩ ?_
  rintro pr x po ρ hp ⟨es, t5, rfl, h1, h2, hnd, h3⟩
  rw [List.nil_append] at hp
  have hx : x ∈ nums c := by
    rw [hp]
    simp
  have hpl : pr.length < (nums c).length := by
    rw [hp, List.length_append, List.length_cons]
    omega
  have hx' := mem_nums.mp hx
  obtain ⟨es', e1, e2, e3, e4, e5, e6⟩ := putT_enc es (dr n x % x) x (1 + dr n (10 + x) % w)
  refine ⟨_, yS n m w c (some (.ownT (encT es'))) (some (.int x)) none none none none none none none none, rfl, ?_, es', some (.int x), rfl, ?_, ?_, e6 hnd, ?_⟩
  · have hpos : 0 < x := by omega
    have hwp : 0 < w := by omega
    have hlt : es.length < 1000 := by omega
    simp [bd_y1, yS, dm, sDictSet, ev_drawn, hpos, hwp, encT_len, hlt, e1]
  · rw [List.length_append, List.length_singleton]
    omega
  · exact h2.put ⟨Int.emod_nonneg _ (by omega), Int.emod_lt_of_pos _ (by omega), hx'.2, bd_of (x := x) hw _⟩ e3
  · intro r hr
    rcases List.mem_append.mp hr with hr | hr
    · exact e5 r (h3 r hr)
    · rw [List.mem_singleton.mp hr]
      exact e4
noncomputable def bd_y2 : SF := (Dn.sSeq (Dn.sAsg (Dn.gName 7) (Dn.e2 Dn.modD (Dn.eCall Dg.L_drawn (Dn.aCons (Dn.eVar 0) (Dn.aCons (Dn.e2 Dn.addD (Dn.eC (.int 20)) (Dn.eVarW 6)) Dn.aNil))) (Dn.e2 Dn.addD (Dn.eVarW 3) (Dn.eC (.int 1)))))
    (Dn.sSeq (Dn.sAsg (Dn.gName 8) (Dn.e2 Dn.modD (Dn.eCall Dg.L_drawn (Dn.aCons (Dn.eVar 0) (Dn.aCons (Dn.e2 Dn.addD (Dn.eC (.int 30)) (Dn.eVarW 6)) Dn.aNil))) (Dn.e2 Dn.addD (Dn.eVarW 3) (Dn.eC (.int 1)))))
    (Dn.sIf (Dn.asB (Dn.e2 Dn.ltD (Dn.eVarW 7) (Dn.eVarW 8))) (Dn.sDictSet 4 (Dn.eVarW 7) (Dn.eVarW 8) (Dn.e2 Dn.addD (Dn.eC (.int 1)) (Dn.e2 Dn.modD (Dn.eCall Dg.L_drawn (Dn.aCons (Dn.eVar 0) (Dn.aCons (Dn.e2 Dn.addD (Dn.eC (.int 40)) (Dn.eVarW 6)) Dn.aNil))) (Dn.eVarW 2)))) Dn.sNx)))
def I2 (n m w c : Int) (pre : List Int) (ρ : Dn.Env) : Prop := ∃ (es : List Ent) (t5 t6 t7 t8 : Option D), ρ = yS n m w c (some (.ownT (encT es))) t5 t6 t7 t8 none none none none none ∧ es.length ≤ c.toNat + pre.length ∧ KE c w es ∧ ND es ∧ ∀ r ∈ nums c, ∃ e ∈ es, e.2.1 = r
theorem lp_y2 {n m w c k : Int} (h0 : 0 ≤ c) (hc100 : c ≤ 100) (hk : k ≤ 100) (hw : 1 ≤ w) {ρ : Dn.Env} (i : I2 n m w c [] ρ) : ∃ ρ', forL (gName 6) bd_y2 ((nums k).map fun p => .int (p - 1)) ρ = some (.nx ρ') ∧ I2 n m w c (nums k) ρ' := by
  have hl : (nums k).length ≤ 100 := by rw [nums_len]; omega
  refine forL_I (fun p => PyData.int (p - 1)) (I2 n m w c) (nums k) [] _ i ?_
  rintro pr x po ρ hp ⟨es, t5, t6, t7, t8, rfl, h1, h2, hnd, h3⟩
  rw [List.nil_append] at hp
  have hpl : pr.length < (nums k).length := by
    rw [hp, List.length_append, List.length_cons]
    omega
  have hcp : 0 < c + 1 := by omega
  have hwp : 0 < w := by omega
  have hlt : es.length < 1000 := by omega
  by_cases hlo : dr n (20 + (x - 1)) % (c + 1) < dr n (30 + (x - 1)) % (c + 1)
  · obtain ⟨es', e1, e2, e3, e4, e5, e6⟩ := putT_enc es (dr n (20 + (x - 1)) % (c + 1)) (dr n (30 + (x - 1)) % (c + 1)) (1 + dr n (40 + (x - 1)) % w)
    refine ⟨_, yS n m w c (some (.ownT (encT es'))) t5 (some (.int (x - 1))) (some (.int (dr n (20 + (x - 1)) % (c + 1)))) (some (.int (dr n (30 + (x - 1)) % (c + 1)))) none none none none none, rfl, ?_, es', _, _, _, _, rfl, ?_, ?_, e6 hnd, ?_⟩
    · simp [bd_y2, yS, dm, sDictSet, ev_drawn, hcp, hwp, encT_len, hlt, hlo, e1]
    · rw [List.length_append, List.length_singleton]
      omega
    · have := Int.emod_lt_of_pos (dr n (30 + (x - 1))) hcp
      exact h2.put ⟨Int.emod_nonneg _ (by omega), hlo, by omega, bd_of (x := x) hw _⟩ e3
    · exact fun r hr => e5 r (h3 r hr)
  · refine ⟨_, yS n m w c (some (.ownT (encT es))) t5 (some (.int (x - 1))) (some (.int (dr n (20 + (x - 1)) % (c + 1)))) (some (.int (dr n (30 + (x - 1)) % (c + 1)))) none none none none none, rfl, ?_, es, _, _, _, _, rfl, ?_, h2, hnd, h3⟩
    · simp [bd_y2, yS, dm, sDictSet, ev_drawn, hcp, hwp, encT_len, hlt, hlo]
    · rw [List.length_append, List.length_singleton]
      omega
theorem cut_lo {α : Type} (xs : List α) {k : Nat} (h : k ≤ xs.length) : cutL xs none (some (k : Int)) = xs.take k := by
  unfold cutL sIx
  rw [HT.sIx_none, HT.sIx_nat, List.drop_zero, Nat.sub_zero, Nat.min_eq_left h]
theorem cut_hi {α : Type} (xs : List α) {k : Nat} (h : k ≤ xs.length) : cutL xs (some (k : Int)) none = xs.drop k := by
  unfold cutL sIx
  rw [HT.sIx_none, HT.sIx_nat, Nat.min_eq_left h, List.take_of_length_le]
  rw [List.length_drop]
  exact Nat.le_refl _
noncomputable def bd_y3 : SF := (Dn.sSeq (Dn.sAsg (Dn.gName 10) (Dn.e2 Dn.addD (Dn.eC (.int 1)) (Dn.e2 Dn.modD (Dn.eCall Dg.L_drawn (Dn.aCons (Dn.eVar 0) (Dn.aCons (Dn.e2 Dn.addD (Dn.eC (.int 60)) (Dn.eVarW 5)) Dn.aNil))) (Dn.eVarW 5))))
    (Dn.sAsg (Dn.gName 9) (Dn.e2 Dn.addD (Dn.e2 Dn.addD (Dn.eCut (Dn.eVarW 9) Dn.oNo (Dn.oInt (Dn.eVarW 10))) (Dn.eLst (Dn.aCons (Dn.eVar 5) Dn.aNil))) (Dn.eCut (Dn.eVarW 9) (Dn.oInt (Dn.eVarW 10)) Dn.oNo))))
def I3 (n m w c : Int) (es : List Ent) (t6 t7 t8 : Option D) (pre : List Int) (ρ : Dn.Env) : Prop := ∃ (ms : List Int) (t5 t10 : Option D), ρ = yS n m w c (some (.ownT (encT es))) t5 t6 t7 t8 (some (.list (ms.map .int))) t10 none none none ∧ ms.Perm (0 :: pre) ∧ ms[0]? = some 0
theorem nums_at {c x : Int} {pr po : List Int} (h : nums c = pr ++ x :: po) : x = pr.length + 1 := by
  have h1 : (nums c)[pr.length]? = some x := by
    rw [h, List.getElem?_append_right (Nat.le_refl _), Nat.sub_self]
    rfl
  have h2 : pr.length < c.toNat := by
    have := (List.getElem?_eq_some_iff.mp h1).1
    rw [nums_len] at this
    exact this
  unfold nums at h1
  rw [List.getElem?_map, List.getElem?_range h2] at h1
  have h3 : (1 : Int) + (pr.length : Int) = x := Option.some.inj h1
  omega
theorem lp_y3 {n m w c : Int} {es : List Ent} {t5 t6 t7 t8 : Option D} (hc : c ≤ 100) : ∃ ρ', forL (gName 5) bd_y3 ((nums c).map .int) (yS n m w c (some (.ownT (encT es))) t5 t6 t7 t8 (some (.list [.int 0])) none none none none) = some (.nx ρ') ∧ I3 n m w c es t6 t7 t8 (nums c) ρ' := by
  have hl : (nums c).length ≤ 100 := by rw [nums_len]; omega
  refine forL_I PyData.int (I3 n m w c es t6 t7 t8) (nums c) [] _ ⟨[0], t5, none, rfl, List.Perm.refl _, rfl⟩ ?_
  rintro pr x po ρ hp ⟨ms, t5, t10, rfl, h1, h2⟩
  rw [List.nil_append] at hp
  have hx := nums_at hp
  have hpl : pr.length < (nums c).length := by
    rw [hp, List.length_append, List.length_cons]
    omega
  have hml : ms.length = pr.length + 1 := by rw [h1.length_eq, List.length_cons]
  have hpos : 0 < x := by omega
  obtain ⟨k, hk⟩ : ∃ k : Nat, 1 + dr n (60 + x) % x = (k : Int) := ⟨(1 + dr n (60 + x) % x).toNat, by
    have := Int.emod_nonneg (dr n (60 + x)) (b := x) (by omega)
    omega⟩
  have hkb : 1 ≤ k ∧ k ≤ ms.length := by
    have := Int.emod_nonneg (dr n (60 + x)) (b := x) (by omega)
    have := Int.emod_lt_of_pos (dr n (60 + x)) hpos
    omega
  have ea : PyData.list (ms.map .int |>.take k) = .list ((ms.take k).map .int) := by rw [List.map_take]
  have hz : (ms.take k ++ x :: ms.drop k).length = ms.length + 1 := by
    rw [List.length_append, List.length_cons, List.length_take, List.length_drop]
    omega
  refine ⟨_, yS n m w c (some (.ownT (encT es))) (some (.int x)) t6 t7 t8 (some (.list ((ms.take k ++ x :: ms.drop k).map .int))) (some (.int k)) none none none, rfl, ?_, ms.take k ++ x :: ms.drop k, _, _, rfl, ?_, ?_⟩
  · have a1 : k ≤ (ms.map PyData.int).length := by rw [List.length_map]; exact hkb.2
    have a2 : min k ms.length + 1 ≤ PySem.sizeLine ∧ min k ms.length + 1 + (ms.length - k) ≤ PySem.sizeLine := by
      have : (1000 : Nat) ≤ PySem.sizeLine := by decide
      omega
    simp [bd_y3, yS, dm, ev_drawn, hpos, hk, eCut, oNo, oInt, intOf, cutD, cut_lo _ a1, cut_hi _ a1, addD, a2]
  · have e := List.perm_middle (a := x) (l₁ := ms.take k) (l₂ := ms.drop k)
    rw [List.take_append_drop] at e
    refine e.trans ((List.Perm.cons x h1).trans ?_)
    exact (List.perm_append_singleton x (0 :: pr)).symm
  · rw [List.getElem?_append_left (by rw [List.length_take]; omega), List.getElem?_take_of_lt (by omega)]
    exact h2
end Pe

set_option maxHeartbeats 4400000
namespace Pe
open Dn
open PySem (PyData)
def nm (ms : List Int) (i : Int) : Int := (ms[i.toNat]?).getD 0
def vl (es : List Ent) (e : Ent) : Int := match getT (encT es) [e.1, e.2.1] with
  | some (.int v) => v
  | _ => 0
def lk (ms : List Int) (es : List Ent) (e : Ent) : Lk := (min (nm ms e.1) (nm ms e.2.1), max (nm ms e.1) (nm ms e.2.1), vl es e)
theorem vl_eq {es : List Ent} {e : Ent} (h : e ∈ es) : getT (encT es) [e.1, e.2.1] = some (.int (vl es e)) ∧ ∃ e' ∈ es, vl es e = e'.2.2 := by
  obtain ⟨e', h1, h2⟩ := getT_enc es h
  have : vl es e = e'.2.2 := by
    unfold vl
    rw [h2]
  exact ⟨by rw [this]; exact h2, e', h1, this⟩
theorem nm_ix {ms : List Int} {i : Int} (h0 : 0 ≤ i) (h1 : i < ms.length) : ixD (.list (ms.map .int)) (.int i) = some (.int (nm ms i)) ∧ ms[i.toNat]? = some (nm ms i) := by
  have hl : i.toNat < ms.length := by omega
  have e : ms[i.toNat]? = some (nm ms i) := by
    unfold nm
    rw [List.getElem?_eq_getElem hl]
    rfl
  refine ⟨?_, e⟩
  have e2 := List.getElem?_eq_getElem hl
  rw [e] at e2
  have e2 := Option.some.inj e2
  simp [ixD, ixNat, h0, h1, hl]
  exact e2.symm
noncomputable def bd_y4 : SF := (Dn.sSeq (Dn.sAsg (Dn.gName 12) (Dn.e2 Dn.ixD (Dn.eVarW 9) (Dn.eVarW 7)))
    (Dn.sSeq (Dn.sAsg (Dn.gName 13) (Dn.e2 Dn.ixD (Dn.eVarW 9) (Dn.eVarW 8)))
    (Dn.sApp 11 (Dn.eTup (Dn.aCons (Dn.e2 Dn.min2D (Dn.eVarW 12) (Dn.eVarW 13)) (Dn.aCons (Dn.e2 Dn.max2D (Dn.eVarW 12) (Dn.eVarW 13)) (Dn.aCons (Dn.eDictGet 4 (Dn.eVarW 7) (Dn.eVarW 8)) Dn.aNil)))))))
theorem lp_y4 {n m w c : Int} {es : List Ent} {ms : List Int} {t5 t6 t7 t8 t10 : Option D} (k : KE c w es) (hm : (ms.length : Int) = c + 1) (hes : es.length ≤ 1000) :
    ∃ a7 a8 t12 t13, forL (gTup [7, 8]) bd_y4 (es.map fun e => .tuple [.int e.1, .int e.2.1]) (yS n m w c (some (.frzT (encT es))) t5 t6 t7 t8 (some (.list (ms.map .int))) t10 (some (.own [])) none none)
      = some (.nx (yS n m w c (some (.frzT (encT es))) t5 t6 a7 a8 (some (.list (ms.map .int))) t10 (some (.own ((es.map (lk ms es)).map encL))) t12 t13)) := by
  obtain ⟨ρ', h, t7', t8', t12, t13, rfl⟩ := forL_I (g := gTup [7, 8]) (b := bd_y4) (fun e : Ent => PyData.tuple [.int e.1, .int e.2.1]) (fun (pre : List Ent) (ρ : Dn.Env) => ∃ t7 t8 t12 t13, ρ = yS n m w c (some (.frzT (encT es))) t5 t6 t7 t8 (some (.list (ms.map .int))) t10 (some (.own ((pre.map (lk ms es)).map encL))) t12 t13) es [] _ ⟨t7, t8, none, none, rfl⟩ (by
    rintro pr e po ρ hp ⟨t7, t8, t12, t13, rfl⟩
    rw [List.nil_append] at hp
    have he : e ∈ es := by
      rw [hp]
      simp
    have hpl : pr.length < es.length := by
      rw [hp, List.length_append, List.length_cons]
      omega
    have ke := k e he
    have n1 := (nm_ix (ms := ms) (i := e.1) (by omega) (by omega)).1
    have n2 := (nm_ix (ms := ms) (i := e.2.1) (by omega) (by omega)).1
    have v1 := (vl_eq he).1
    refine ⟨_, yS n m w c (some (.frzT (encT es))) t5 t6 (some (.int e.1)) (some (.int e.2.1)) (some (.list (ms.map .int))) t10 (some (.own (((pr ++ [e]).map (lk ms es)).map encL))) (some (.int (nm ms e.1))) (some (.int (nm ms e.2.1))), rfl, ?_, _, _, _, _, rfl⟩
    have hlt : pr.length < 1000000 := by omega
    simp [bd_y4, yS, dm, n1, n2, min2_eq, max2_eq, eDictGet, v1, hlt, lk, encL])
  exact ⟨t7', t8', t12, t13, h⟩
/-! sorted -/
theorem depthL : ∀ L : List Lk, PyData.depthAll (L.map encL) ≤ 2
  | [] => by simp [PyData.depthAll]
  | l :: L => by
    rw [List.map_cons]
    have ih := depthL L
    simp [PyData.depthAll, PyData.depth, encL]
    omega
theorem sortOk_L {L : List Lk} (h : L.length ≤ 1000) : sortOk (L.map encL) = true := by
  unfold sortOk
  have h1 := depthL L
  simp [h, encL, PySem.W.alike, PySem.W.alikeAll]
  have : PyData.depthAll (L.map fun l => PyData.tuple [.int l.1, .int l.2.1, .int l.2.2]) ≤ 50 := Nat.le_trans h1 (by decide)
  exact this
def dec : D → Lk
  | .tuple [.int a, .int b, .int v] => (a, b, v)
  | _ => (0, 0, 0)
theorem dec_enc (l : Lk) : dec (encL l) = l := rfl
theorem ev_sort {L : List Lk} (h : L.length ≤ 1000) : ∃ ls : List Lk, sortD (.list (L.map encL)) = some (.list (ls.map encL)) ∧ ls.Perm L := by
  have hp : (sortL (L.map encL)).Perm (L.map encL) := List.mergeSort_perm _ _
  refine ⟨(sortL (L.map encL)).map dec, ?_, ?_⟩
  · show (if sortOk (L.map encL) = true then some (PyData.list (sortL (L.map encL))) else none) = _
    rw [if_pos (sortOk_L h), List.map_map]
    congr 2
    have : (sortL (L.map encL)).map (encL ∘ dec) = (sortL (L.map encL)).map id := List.map_congr_left fun y hy => by
      obtain ⟨l, _, rfl⟩ := List.mem_map.mp (hp.mem_iff.mp hy)
      show encL (dec (encL l)) = _
      rw [dec_enc]
      rfl
    rw [this, List.map_id]
  · have h2 := hp.map dec
    rw [List.map_map] at h2
    have : L.map (dec ∘ encL) = L.map id := List.map_congr_left fun l _ => dec_enc l
    rw [this, List.map_id] at h2
    exact h2
theorem mk_yard {c w : Int} {es : List Ent} {ms : List Int} {ls : List Lk} (h1 : 1 ≤ c) (h2 : c ≤ 100) (hw : w ≤ 100) (k : KE c w es) (hnd : ND es) (hes : es.length ≤ 1000) (hpar : ∀ r ∈ nums c, ∃ e ∈ es, e.2.1 = r)
    (hms : ms.Perm (0 :: nums c)) (h0 : ms[0]? = some 0) (hl : ls.Perm (es.map (lk ms es))) : Z c ls := by
  have hmd : ms.Nodup := hms.nodup_iff.mpr (List.nodup_cons.mpr ⟨fun h => by have := mem_nums.mp h; omega, nums_nodup c⟩)
  have hlen : (ms.length : Int) = c + 1 := by
    rw [hms.length_eq, List.length_cons, nums_len]
    omega
  let rk : Int → Int := fun o => if o ∈ ms then (ms.idxOf o : Nat) else 0
  have rk_nm : ∀ i, 0 ≤ i → i ≤ c → rk (nm ms i) = i := fun i a b => by
    have e := (nm_ix (ms := ms) (i := i) a (by omega)).2
    have hm : nm ms i ∈ ms := List.mem_of_getElem? e
    show (if nm ms i ∈ ms then ((ms.idxOf (nm ms i) : Nat) : Int) else 0) = i
    rw [if_pos hm]
    have e2 : ms[ms.idxOf (nm ms i)]? = some (nm ms i) := by
      rw [List.getElem?_eq_getElem (List.idxOf_lt_length_of_mem hm), List.getElem_idxOf]
    have hj : ms.idxOf (nm ms i) = i.toNat := (List.getElem?_inj (List.idxOf_lt_length_of_mem hm) hmd).mp (by rw [e2, e])
    omega
  have ne : ∀ e ∈ es, nm ms e.1 ≠ nm ms e.2.1 := fun e he q => by
    have ke := k e he
    have a := rk_nm e.1 (by omega) (by omega)
    rw [q, rk_nm e.2.1 (by omega) (by omega)] at a
    omega
  have hy : Y c ls := by
    refine mkY rk h1 h2 (by rw [hl.length_eq, List.length_map]; exact hes) (fun l hl' => ?_) (fun o => ?_) (fun p hp => ?_)
    · obtain ⟨e, he, rfl⟩ := List.mem_map.mp (hl.mem_iff.mp hl')
      obtain ⟨_, e', h3, h4⟩ := vl_eq he
      have := k e' h3
      have := ne e he
      refine ⟨?_, ?_, ?_⟩
      · show min (nm ms e.1) (nm ms e.2.1) < max (nm ms e.1) (nm ms e.2.1)
        omega
      · show 1 ≤ vl es e
        omega
      · show vl es e ≤ 100
        omega
    · show 0 ≤ (if o ∈ ms then ((ms.idxOf o : Nat) : Int) else 0) ∧ (if o ∈ ms then ((ms.idxOf o : Nat) : Int) else 0) ≤ c
      split
      · rename_i hm
        have := List.idxOf_lt_length_of_mem hm
        omega
      · omega
    · have hm : p ∈ ms := hms.mem_iff.mpr (List.mem_cons_of_mem _ hp)
      have hlt := List.idxOf_lt_length_of_mem hm
      have e2 : ms[ms.idxOf p]? = some p := by
        rw [List.getElem?_eq_getElem hlt, List.getElem_idxOf]
      have hr0 : ms.idxOf p ≠ 0 := fun q => by
        rw [q, h0] at e2
        have := Option.some.inj e2
        have := mem_nums.mp hp
        omega
      obtain ⟨e, he, hre⟩ := hpar ((ms.idxOf p : Nat) : Int) (mem_nums.mpr ⟨by omega, by omega⟩)
      have ke := k e he
      have hnp : nm ms e.2.1 = p := by
        unfold nm
        rw [hre, Int.toNat_natCast, e2]
        rfl
      have hne := ne e he
      have r1 := rk_nm e.1 (by omega) (by omega)
      have r2 := rk_nm e.2.1 (by omega) (by omega)
      rw [hnp] at hne r2
      refine ⟨lk ms es e, hl.mem_iff.mpr (List.mem_map.mpr ⟨e, he, rfl⟩), ?_, ?_⟩
      · show min (nm ms e.1) (nm ms e.2.1) = p ∨ max (nm ms e.1) (nm ms e.2.1) = p
        rw [hnp]
        omega
      · have : oth (lk ms es e) p = nm ms e.1 := by
          show (if min (nm ms e.1) (nm ms e.2.1) = p then max (nm ms e.1) (nm ms e.2.1) else min (nm ms e.1) (nm ms e.2.1)) = nm ms e.1
          rw [hnp]
          split <;> omega
        rw [this, r1, r2]
        omega
  refine ⟨hy, fun l hl' => ?_, ?_⟩
  · obtain ⟨e, he, rfl⟩ := List.mem_map.mp (hl.mem_iff.mp hl')
    have ke := k e he
    have n1 := hms.mem_iff.mp (List.mem_of_getElem? (nm_ix (ms := ms) (i := e.1) (by omega) (by omega)).2)
    have n2 := hms.mem_iff.mp (List.mem_of_getElem? (nm_ix (ms := ms) (i := e.2.1) (by omega) (by omega)).2)
    have b1 : 0 ≤ nm ms e.1 ∧ nm ms e.1 ≤ c := by
      rcases List.mem_cons.mp n1 with q | q
      · omega
      · have := mem_nums.mp q
        omega
    have b2 : 0 ≤ nm ms e.2.1 ∧ nm ms e.2.1 ≤ c := by
      rcases List.mem_cons.mp n2 with q | q
      · omega
      · have := mem_nums.mp q
        omega
    have := ne e he
    refine ⟨?_, ?_, ?_⟩
    · show 0 ≤ min (nm ms e.1) (nm ms e.2.1)
      omega
    · show min (nm ms e.1) (nm ms e.2.1) < max (nm ms e.1) (nm ms e.2.1)
      omega
    · show max (nm ms e.1) (nm ms e.2.1) ≤ c
      omega
  · unfold ND
    refine (hl.map ky).nodup_iff.mpr ?_
    rw [List.map_map]
    unfold ND at hnd
    rw [List.nodup_iff_pairwise_ne, List.pairwise_map] at hnd ⊢
    refine List.Pairwise.imp_of_mem (fun {e f} he hf q r => q ?_) hnd
    have ke := k e he
    have kf := k f hf
    have r1 : min (nm ms e.1) (nm ms e.2.1) = min (nm ms f.1) (nm ms f.2.1) := congrArg Prod.fst r
    have r2 : max (nm ms e.1) (nm ms e.2.1) = max (nm ms f.1) (nm ms f.2.1) := congrArg Prod.snd r
    have inj : ∀ i j, 0 ≤ i → i ≤ c → 0 ≤ j → j ≤ c → nm ms i = nm ms j → i = j := fun i j a b d d' h => by
      have := rk_nm i a b
      rw [h, rk_nm j d d'] at this
      exact this.symm
    have i1 := inj e.1 f.1 (by omega) (by omega) (by omega) (by omega)
    have i2 := inj e.2.1 f.2.1 (by omega) (by omega) (by omega) (by omega)
    have i3 := inj e.1 f.2.1 (by omega) (by omega) (by omega) (by omega)
    have i4 := inj e.2.1 f.1 (by omega) (by omega) (by omega) (by omega)
    have n1 := ne e he
    have n2 := ne f hf
    have : e.1 = f.1 ∧ e.2.1 = f.2.1 := by
      by_cases c1 : nm ms e.1 = nm ms f.1
      · have := i1 c1
        have : nm ms e.2.1 = nm ms f.2.1 := by omega
        have := i2 this
        omega
      · have c2 : nm ms e.1 = nm ms f.2.1 := by omega
        have c3 : nm ms e.2.1 = nm ms f.1 := by omega
        have := i3 c2
        have := i4 c3
        omega
    show (e.1, e.2.1) = (f.1, f.2.1)
    rw [this.1, this.2]
end Pe

set_option maxHeartbeats 4400000
namespace Pe
open Dn
open PySem (PyData)
theorem seq_nx {a b : SF} {ρ ρ' : Dn.Env} (h : a ρ = some (.nx ρ')) : sSeq a b ρ = b ρ' := by
  rw [ev_sSeq, h]
theorem noF_cons (s : Option Sl) (ρ : Dn.Env) : noFrz (s :: ρ) = (noFrz [s] && noFrz ρ) := by
  unfold noFrz
  rw [List.all_cons, List.all_cons, List.all_nil, Bool.and_true]
theorem noF_dm (t : Option D) : noFrz [dm t] = true := by cases t <;> rfl
theorem noF_y (n m w c : Int) (t5 t6 t7 t8 t9 t10 : Option D) (ds : List D) (t12 t13 : Option D) : noFrz (yS n m w c none t5 t6 t7 t8 t9 t10 (some (.own ds)) t12 t13) = true := by
  unfold yS
  rw [noF_cons (some (.dat (.int n))), noF_cons (some (.dat (.int m))), noF_cons (some (.dat (.int w))), noF_cons (some (.dat (.int c))), noF_cons none, noF_cons (dm t5), noF_cons (dm t6), noF_cons (dm t7), noF_cons (dm t8), noF_cons (dm t9), noF_cons (dm t10), noF_cons (some (.own ds)), noF_cons (dm t12)]
  simp only [noF_dm, Bool.and_true]
  rfl
theorem ev_yard3 (n : Int) {m w : Int} (hm : 1 ≤ m ∧ m ≤ 100) (hw : 1 ≤ w ∧ w ≤ 100) : ∃ c ls, (1 ≤ c ∧ c ≤ m ∧ Z c ls ∧ Dg.L_yard [.int n, .int m, .int w] = some (.ok (encY c ls))) ∧ (∀ l ∈ ls, 1 ≤ l.2.2 ∧ l.2.2 ≤ w) ∧ ls.length ≤ c.toNat + 3 ∧ ∃ L, ls.map encL = sortL L := by
  generalize hc : 1 + n % m = c
  have hcb : 1 ≤ c ∧ c ≤ m := by
    rw [← hc]
    exact bd_of (x := n) hm.1 n
  have hc100 : c ≤ 100 := by omega
  generalize hk : n / 7 % 4 = k
  have hkb : 0 ≤ k ∧ k ≤ 100 := by
    have h1 := Int.emod_nonneg (n / 7) (b := 4) (by decide)
    have h2 := Int.emod_lt_of_pos (n / 7) (b := 4) (by decide)
    omega
  have hmp : 0 < m := by omega
  obtain ⟨ρ1, y1, es1, t5, rfl, l1, k1, d1, p1⟩ := lp_y1 (n := n) (m := m) (w := w) (c := c) hc100 hw.1
  have hn : (nums c).length ≤ 100 := by rw [nums_len]; omega
  obtain ⟨ρ2, y2, es, a5, a6, a7, a8, rfl, l2, k2, d2, p2⟩ := lp_y2 (n := n) (m := m) (w := w) (c := c) (k := k) (by omega) hc100 hkb.2 hw.1 ⟨es1, t5, none, none, none, rfl, by rw [nums_len] at l1; simp; omega, k1, d1, p1⟩
  have hkn : (nums k).length ≤ 100 := by rw [nums_len]; omega
  obtain ⟨ρ3, y3, ms, b5, b10, rfl, hms, h0⟩ := lp_y3 (n := n) (m := m) (w := w) (c := c) (es := es) (t5 := a5) (t6 := a6) (t7 := a7) (t8 := a8) hc100
  have hlen : (ms.length : Int) = c + 1 := by
    rw [hms.length_eq, List.length_cons, nums_len]
    omega
  have hes : es.length ≤ 1000 := by omega
  obtain ⟨a7', a8', t12, t13, y4⟩ := lp_y4 (n := n) (m := m) (w := w) (c := c) (es := es) (ms := ms) (t5 := b5) (t6 := a6) (t7 := a7) (t8 := a8) (t10 := b10) k2 hlen hes
  obtain ⟨ls, hs, hperm⟩ := ev_sort (L := es.map (lk ms es)) (by rw [List.length_map]; exact hes)
  refine ⟨c, ls, ⟨hcb.1, hcb.2, mk_yard hcb.1 hc100 hw.2 k2 d2 hes p2 hms h0 hperm, runF_ok rfl ?_⟩, fun l hl => ?_, ?_, es.map (lk ms es) |>.map encL, ?_⟩
  rotate_left
  · obtain ⟨e, he, rfl⟩ := List.mem_map.mp (hperm.mem_iff.mp hl)
    obtain ⟨e', he', hv⟩ := (vl_eq he).2
    have := k2 e' he'
    show 1 ≤ vl es e ∧ vl es e ≤ w
    rw [hv]
    omega
  · rw [hperm.length_eq, List.length_map]
    have h2 := Int.emod_lt_of_pos (n / 7) (b := 4) (by decide)
    have l3 := nums_len k
    omega
  · have h := hs
    change (if sortOk ((es.map (lk ms es)).map encL) = true then some (PyData.list (sortL ((es.map (lk ms es)).map encL))) else none) = _ at h
    split at h
    · injection h with h
      injection h with h
      exact h.symm
    · cases h
  show Dg.b_L_yard [some (.dat (.int n)), some (.dat (.int m)), some (.dat (.int w)), none, none, none, none, none, none, none, none, none, none, none] = _
  have q1 : iRng2 (eC (.int 1)) (e2 addD (eVarW 3) (eC (.int 1))) (yS n m w c (some (.ownT [])) none none none none none none none none none) = some (.ok ((nums c).map .int)) := by
    simp [yS, rng_nums (c := c) (by omega) hc100]
  have q2 : iRng1 (e2 modD (e2 fdivD (eVarW 0) (eC (.int 7))) (eC (.int 4))) (yS n m w c (some (.ownT (encT es1))) t5 none none none none none none none none) = some (.ok ((nums k).map fun p => .int (p - 1))) := by
    have e : fdivD (.int n) (.int 7) = some (.int (n / 7)) := rfl
    simp [yS, e, hk, rng0 hkb.1 hkb.2]
  have q3 : iRng2 (eC (.int 1)) (e2 addD (eVarW 3) (eC (.int 1))) (yS n m w c (some (.ownT (encT es))) a5 a6 a7 a8 (some (.list [.int 0])) none none none none) = some (.ok ((nums c).map .int)) := by
    simp [yS, rng_nums (c := c) (by omega) hc100]
  unfold Dg.b_L_yard
  rw [seq_nx (ρ' := yS n m w c none none none none none none none none none none) (by simp [hmp, hc, yS, dm])]
  rw [seq_nx (ρ' := yS n m w c (some (.ownT [])) none none none none none none none none none) rfl]
  rw [seq_nx (ρ' := yS n m w c (some (.ownT (encT es1))) t5 none none none none none none none none) (by
    rw [ev_sFor, q1]
    exact y1)]
  rw [seq_nx (ρ' := yS n m w c (some (.ownT (encT es))) a5 a6 a7 a8 none none none none none) (by
    rw [ev_sFor, q2]
    exact y2)]
  rw [seq_nx (ρ' := yS n m w c (some (.ownT (encT es))) a5 a6 a7 a8 (some (.list [.int 0])) none none none none) (by
    simp [yS, dm])]
  rw [seq_nx (ρ' := yS n m w c (some (.ownT (encT es))) b5 a6 a7 a8 (some (.list (ms.map .int))) b10 none none none) (by
    rw [ev_sFor, q3]
    exact y3)]
  rw [seq_nx (ρ' := yS n m w c (some (.ownT (encT es))) b5 a6 a7 a8 (some (.list (ms.map .int))) b10 (some (.own [])) none none) (by
    simp [yS, dm])]
  rw [seq_nx (ρ' := yS n m w c none b5 a6 a7' a8' (some (.list (ms.map .int))) b10 (some (.own ((es.map (lk ms es)).map encL))) t12 t13) (by
    have hkey : keysT (encT es) = es.map fun e => .tuple [.int e.1, .int e.2.1] := by
      unfold keysT encT
      rw [List.map_map]
      rfl
    show (match forL (gTup [7, 8]) bd_y4 (keysT (encT es)) (yS n m w c (some (.frzT (encT es))) b5 a6 a7 a8 (some (.list (ms.map .int))) b10 (some (.own [])) none none) with
      | some (SOut.nx ρ') => if noFrz (ρ'.set 4 none) then some (SOut.nx (ρ'.set 4 none)) else none
      | _ => none) = _
    rw [hkey, y4]
    show (if noFrz (yS n m w c none b5 a6 a7' a8' (some (.list (ms.map .int))) b10 (some (.own ((es.map (lk ms es)).map encL))) t12 t13) = true then some (SOut.nx (yS n m w c none b5 a6 a7' a8' (some (.list (ms.map .int))) b10 (some (.own ((es.map (lk ms es)).map encL))) t12 t13)) else none) = _
    rw [if_pos]
    exact noF_y ..)]
  have e1 : e1 sortD (eVarW 11) (yS n m w c none b5 a6 a7' a8' (some (.list (ms.map .int))) b10 (some (.own ((es.map (lk ms es)).map encL))) t12 t13) = some (.ok (.list (ls.map encL))) := by
    rw [ev_e1]
    show bnd (some (.ok (PyData.list ((es.map (lk ms es)).map encL)))) (fun a => lft (sortD a)) = _
    rw [bnd_ok, hs]
    rfl
  rw [ev_sRet, ev_tup, ev_aCons, ev_aCons, ev_e1, e1]
  rfl
theorem ev_yard2 (n : Int) {m w : Int} (hm : 1 ≤ m ∧ m ≤ 100) (hw : 1 ≤ w ∧ w ≤ 100) : ∃ c ls, (1 ≤ c ∧ c ≤ m ∧ Z c ls ∧ Dg.L_yard [.int n, .int m, .int w] = some (.ok (encY c ls))) ∧ (∀ l ∈ ls, 1 ≤ l.2.2 ∧ l.2.2 ≤ w) ∧ ls.length ≤ c.toNat + 3 := by
  obtain ⟨c, ls, h1, h2, h3, _⟩ := ev_yard3 n hm hw
  exact ⟨c, ls, h1, h2, h3⟩
theorem ev_yard (n : Int) {m w : Int} (hm : 1 ≤ m ∧ m ≤ 100) (hw : 1 ≤ w ∧ w ≤ 100) : ∃ c ls, 1 ≤ c ∧ c ≤ m ∧ Z c ls ∧ Dg.L_yard [.int n, .int m, .int w] = some (.ok (encY c ls)) := by
  obtain ⟨c, ls, h, _⟩ := ev_yard2 n hm hw
  exact ⟨c, ls, h⟩
end Pe

set_option maxHeartbeats 4400000
namespace Pe
open Dn
open PySem (PyData)
/-! ### the law's own forms: sums over links -/
theorem ind_eq {q x : Int} : ∀ xs : List Int, xs.Nodup → (xs.map fun o => if o = q then x else 0).sum = if q ∈ xs then x else 0
  | [], _ => rfl
  | y :: xs, h => by
    rw [List.nodup_cons] at h
    rw [List.map_cons, List.sum_cons, ind_eq xs h.2]
    by_cases e : y = q
    · subst e
      rw [if_pos rfl, if_neg h.1, if_pos List.mem_cons_self]
      omega
    · rw [if_neg e]
      by_cases m : q ∈ xs
      · rw [if_pos m, if_pos (List.mem_cons_of_mem _ m)]
        omega
      · rw [if_neg m, if_neg fun k => by
          rcases List.mem_cons.mp k with k | k
          · exact e k.symm
          · exact m k]
        rfl
def hit (i j : Int) (l : Lk) : Bool := decide (l.1 ≠ l.2.1) && (decide (l.1 = i ∧ l.2.1 = j) || decide (l.1 = j ∧ l.2.1 = i))
def Lbt (ls : List Lk) (i j : Int) : Int := ((ls.filter (hit i j)).map fun l => l.2.2).sum
theorem hit_iff {i j : Int} {l : Lk} (h : l.1 < l.2.1) : hit i j l = true ↔ l.1 = min i j ∧ l.2.1 = max i j := by
  unfold hit
  simp only [Bool.and_eq_true, Bool.or_eq_true, decide_eq_true_eq]
  omega
theorem Lbt_cons (l : Lk) (r : List Lk) (i j : Int) : Lbt (l :: r) i j = (if hit i j l = true then l.2.2 else 0) + Lbt r i j := by
  unfold Lbt
  by_cases h : hit i j l = true
  · rw [List.filter_cons_of_pos h, if_pos h, List.map_cons, List.sum_cons]
  · rw [List.filter_cons_of_neg h, if_neg h, Int.zero_add]
theorem Lbt_eq (i j : Int) : ∀ ls : List Lk, (∀ l ∈ ls, l.1 < l.2.1) → ND ls → Lbt ls i j = btw ls i j
  | [], _, _ => rfl
  | l :: r, h, d => by
    have hl := h l List.mem_cons_self
    unfold ND at d
    rw [List.map_cons, List.nodup_cons] at d
    rw [Lbt_cons, btw_cons]
    by_cases q : l.1 = min i j ∧ l.2.1 = max i j
    · rw [if_pos q, if_pos ((hit_iff hl).mpr q)]
      have : r.filter (hit i j) = [] := List.filter_eq_nil_iff.mpr fun m hm k => by
        have q2 := (hit_iff (h m (List.mem_cons_of_mem _ hm))).mp k
        apply d.1
        refine List.mem_map.mpr ⟨m, hm, ?_⟩
        show (m.1, m.2.1) = (l.1, l.2.1)
        rw [q2.1, q2.2, q.1, q.2]
      unfold Lbt
      rw [this]
      simp
    · rw [if_neg q, if_neg fun k => q ((hit_iff hl).mp k), Int.zero_add]
      exact Lbt_eq i j r (fun m hm => h m (List.mem_cons_of_mem _ hm)) d.2
theorem hit_oth {p o : Int} {l : Lk} (h : l.1 < l.2.1) : hit p o l = true ↔ (l.1 = p ∨ l.2.1 = p) ∧ o = oth l p := by
  rw [hit_iff h]
  unfold oth
  split <;> omega
theorem sz_cons (l : Lk) (r : List Lk) (p : Int) : sz (l :: r) p = (if l.1 = p ∨ l.2.1 = p then l.2.2 else 0) + sz r p := by
  unfold sz
  by_cases h : l.1 = p ∨ l.2.1 = p
  · rw [List.filter_cons_of_pos (by simpa using h), if_pos h, List.map_cons, List.sum_cons]
  · rw [List.filter_cons_of_neg (by simpa using h), if_neg h, Int.zero_add]
/-- over all places and the ditch -/
theorem su_Lbt (c : Int) (p : Int) : ∀ ls : List Lk, (∀ l ∈ ls, 0 ≤ l.1 ∧ l.1 < l.2.1 ∧ l.2.1 ≤ c) → ((nums (c + 1)).map fun q => Lbt ls p (q - 1)).sum = sz ls p
  | [], _ => by
    have := su_mul (0 : Int) (fun _ : Int => 0) (nums (c + 1))
    simp only [Int.zero_mul] at this
    exact this
  | l :: r, h => by
    have hl := h l List.mem_cons_self
    have ih := su_Lbt c p r fun m hm => h m (List.mem_cons_of_mem _ hm)
    have e : ((nums (c + 1)).map fun q => Lbt (l :: r) p (q - 1)) = (nums (c + 1)).map fun q => (if q = oth l p + 1 then (if l.1 = p ∨ l.2.1 = p then l.2.2 else 0) else 0) + Lbt r p (q - 1) := List.map_congr_left fun q _ => by
      rw [Lbt_cons]
      congr 1
      by_cases a : l.1 = p ∨ l.2.1 = p
      · rw [if_pos a]
        by_cases b : q = oth l p + 1
        · rw [if_pos b, if_pos ((hit_oth hl.2.1).mpr ⟨a, by omega⟩)]
        · rw [if_neg b, if_neg fun k => b (by have := ((hit_oth hl.2.1).mp k).2; omega)]
      · rw [if_neg a, if_neg fun k => a ((hit_oth hl.2.1).mp k).1]
        split <;> rfl
    rw [e, su_add, ind_eq _ (nums_nodup _), ih, sz_cons]
    congr 1
    by_cases a : l.1 = p ∨ l.2.1 = p
    · rw [if_pos a, if_pos (mem_nums.mpr (by unfold oth; split <;> omega))]
    · rw [if_neg a]
      split <;> rfl
/-! forced, link by link -/
def ed (t f : Int → Int) (m a b : Int) (p : Int) : Int := if a > 0 then (f p - (if p = a then m * t a else 0)) + (if b > 0 then (if p = b then m * t a else 0) else 0) else f p
def stp (t f : Int → Int) (l : Lk) : Int → Int := ed t (ed t f l.2.2 l.1 l.2.1) l.2.2 l.2.1 l.1
def wt (t : Int → Int) (o : Int) : Int := if 0 < o then t o else 0
theorem stp_eq {t f : Int → Int} {l : Lk} {p : Int} (h : 0 ≤ l.1 ∧ l.1 < l.2.1) (hp : 1 ≤ p) : stp t f l p = f p + (if l.1 = p ∨ l.2.1 = p then l.2.2 * wt t (oth l p) - l.2.2 * t p else 0) := by
  unfold stp ed wt oth
  by_cases h1 : l.1 = p
  · subst h1
    have e1 : ¬ l.1 = l.2.1 := by omega
    have e2 : l.2.1 > 0 := by omega
    have e3 : l.1 > 0 := by omega
    simp [e1, e2, e3]
    omega
  · by_cases h2 : l.2.1 = p
    · subst h2
      have e2 : l.2.1 > 0 := by omega
      have e1 : ¬ l.2.1 = l.1 := by omega
      by_cases h3 : l.1 > 0
      · simp [h1, e1, e2, h3]
        omega
      · simp [h1, e1, e2, h3]
        omega
    · have e1 : ¬ p = l.1 := fun q => h1 q.symm
      have e2 : ¬ p = l.2.1 := fun q => h2 q.symm
      simp [h1, h2, e1, e2]
theorem fold_stp {c : Int} (t : Int → Int) {p : Int} (hp : 1 ≤ p) : ∀ (ls : List Lk) (f : Int → Int), (∀ l ∈ ls, 0 ≤ l.1 ∧ l.1 < l.2.1 ∧ l.2.1 ≤ c) → ls.foldl (stp t) f p = f p - t p * sz ls p + ((ls.filter fun l => l.1 == p || l.2.1 == p).map fun l => l.2.2 * wt t (oth l p)).sum
  | [], f, _ => by simp [sz]
  | l :: r, f, h => by
    have hl := h l List.mem_cons_self
    rw [List.foldl_cons, fold_stp t hp r (stp t f l) (fun m hm => h m (List.mem_cons_of_mem _ hm)), stp_eq ⟨hl.1, hl.2.1⟩ hp, sz_cons]
    by_cases a : l.1 = p ∨ l.2.1 = p
    · rw [List.filter_cons_of_pos (by simpa using a), if_pos a, if_pos a, List.map_cons, List.sum_cons, Int.mul_add, Int.mul_comm (t p) l.2.2]
      omega
    · rw [List.filter_cons_of_neg (by simpa using a), if_neg a, if_neg a, Int.zero_add]
      omega
theorem inc_eq {c : Int} (t : Int → Int) {p : Int} : ∀ ls : List Lk, (∀ l ∈ ls, 0 ≤ l.1 ∧ l.1 < l.2.1 ∧ l.2.1 ≤ c) → ((nums c).map fun o => if o = p then 0 else t o * Lbt ls p o).sum = ((ls.filter fun l => l.1 == p || l.2.1 == p).map fun l => l.2.2 * wt t (oth l p)).sum
  | [], _ => by
    have e : ((nums c).map fun o => if o = p then 0 else t o * Lbt [] p o) = (nums c).map fun _ => 0 := List.map_congr_left fun o _ => by
      show (if o = p then 0 else t o * 0) = 0
      rw [Int.mul_zero]
      split <;> rfl
    rw [e]
    have := su_mul (0 : Int) (fun _ : Int => 0) (nums c)
    simp only [Int.zero_mul] at this
    exact this
  | l :: r, h => by
    have hl := h l List.mem_cons_self
    have ih := inc_eq (c := c) t (p := p) r fun m hm => h m (List.mem_cons_of_mem _ hm)
    have e : ((nums c).map fun o => if o = p then 0 else t o * Lbt (l :: r) p o) = (nums c).map fun o => (if o = oth l p then (if l.1 = p ∨ l.2.1 = p then l.2.2 * t (oth l p) else 0) else 0) + (if o = p then 0 else t o * Lbt r p o) := List.map_congr_left fun o _ => by
      rw [Lbt_cons]
      by_cases ho : o = p
      · rw [if_pos ho, if_pos ho]
        by_cases a : l.1 = p ∨ l.2.1 = p
        · have : ¬ o = oth l p := by
            unfold oth
            split <;> omega
          rw [if_neg this]
          rfl
        · rw [if_neg a]
          split <;> rfl
      · rw [if_neg ho, if_neg ho, Int.mul_add]
        congr 1
        by_cases a : l.1 = p ∨ l.2.1 = p
        · rw [if_pos a]
          by_cases b : o = oth l p
          · rw [if_pos b, if_pos ((hit_oth hl.2.1).mpr ⟨a, b⟩), b, Int.mul_comm]
          · rw [if_neg b, if_neg fun k => b ((hit_oth hl.2.1).mp k).2, Int.mul_zero]
        · rw [if_neg a, if_neg fun k => a ((hit_oth hl.2.1).mp k).1, Int.mul_zero]
          split <;> rfl
    rw [e, su_add, ind_eq _ (nums_nodup _), ih]
    by_cases a : l.1 = p ∨ l.2.1 = p
    · rw [List.filter_cons_of_pos (by simpa using a), List.map_cons, List.sum_cons, if_pos a]
      congr 1
      unfold wt
      by_cases b : 0 < oth l p
      · rw [if_pos b, if_pos]
        refine mem_nums.mpr ⟨by omega, ?_⟩
        unfold oth
        split <;> omega
      · rw [if_neg b, if_neg fun k => by have := mem_nums.mp k; omega, Int.mul_zero]
    · rw [List.filter_cons_of_neg (by simpa using a), if_neg a]
      split <;> omega
theorem fold_fo {c : Int} {ls : List Lk} (z : Z c ls) (g t : Int → Int) : EqP c (ls.foldl (stp t) g) (fo c ls g t) := fun p hp => by
  rw [fold_stp t (mem_nums.mp hp).1 ls g z.rng, fo_eq, ← inc_eq t ls z.rng]
  unfold inc sumN
  congr 2
  refine List.map_congr_left fun o _ => ?_
  rw [Lbt_eq p o ls (fun l hl => (z.rng l hl).2.1) z.dis]
end Pe

set_option maxHeartbeats 4400000
namespace Pe
open Dn
open PySem (PyData)
/-! ### the law's own forms, walked -/
theorem pairIn (a b i j : Int) : inD (.tuple [.int a, .int b]) (.tuple [.tuple [.int i, .int j], .tuple [.int j, .int i]]) = some (.bool (decide (a = i ∧ b = j) || decide (a = j ∧ b = i))) := by
  simp [inD, PyData.plainAll, PyData.plain, okD, PyData.depth, PyData.depthAll, PyData.eqv, PyData.eqvAll]
  rw [Bool.eq_iff_iff]
  simp
  omega
theorem ev_Lbt {c : Int} {ls : List Lk} (g : G c ls) (i j : Int) : Dg.L_between [encY c ls, .int i, .int j] = some (.ok (.int (Lbt ls i j))) := by
  refine runF_ok rfl ?_
  show Dg.b_L_between [some (.dat (encY c ls)), some (.dat (.int i)), some (.dat (.int j)), none, none, none] = _
  have hlen : ls.length ≤ 1000000 := by have := g.l1; omega
  have hc := compL_map (g := gTup [3, 4, 5]) (t := tAndF (asB (e2 neD (eVarW 3) (eVarW 4))) (asB (e2 inD (eTup (aCons (eVar 3) (aCons (eVar 4) aNil))) (eTup (aCons (eTup (aCons (eVar 1) (aCons (eVar 2) aNil))) (aCons (eTup (aCons (eVar 2) (aCons (eVar 1) aNil))) aNil)))))) (f := eVar 5) encL [some (.dat (encY c ls)), some (.dat (.int i)), some (.dat (.int j)), none, none, none] (hit i j) (fun l => .int l.2.2) ls fun l hl => ⟨[some (.dat (encY c ls)), some (.dat (.int i)), some (.dat (.int j)), some (.dat (.int l.1)), some (.dat (.int l.2.1)), some (.dat (.int l.2.2))], by simp [encL], by
      by_cases h : l.1 = l.2.1
      · simp [tAndF, h, hit]
      · simp [tAndF, h, hit, pairIn], fun _ => by simp⟩
  have hm : ((ls.filter (hit i j)).map fun l => PyData.int l.2.2) = ((ls.filter (hit i j)).map fun l => l.2.2).map .int := by
    rw [List.map_map]
    rfl
  unfold Dg.b_L_between
  have e0 : iSeq (e2 ixD (eVarW 0) (eC (.int 1))) [some (.dat (encY c ls)), some (.dat (.int i)), some (.dat (.int j)), none, none, none] = some (.ok (ls.map encL)) := by
    simp [encY, encLs]
  simp only [ev_sRet, ev_e1, ev_comp]
  rw [e0]
  simp only [bnd_ok, List.length_map, if_pos hlen, ev_wipe0, ev_wipe1, List.set_cons_succ, List.set_cons_zero]
  rw [hc, hm]
  simp only [bnd_ok, ev_ret, ev_sum, lft_some, bS_ok]
  rfl
noncomputable def bd_Ls : SF := Dn.sApp 1 (Dn.e1 Dn.sumD (Dn.eComp (Dn.iRng1 (Dn.e2 Dn.addD (Dn.e2 Dn.ixD (Dn.eVarW 0) (Dn.eC (.int 0))) (Dn.eC (.int 1)))) (Dn.gName 3) Dn.tYesF (Dn.eCall Dg.L_between (Dn.aCons (Dn.eVar 0) (Dn.aCons (Dn.eVar 2) (Dn.aCons (Dn.eVar 3) Dn.aNil)))) [3]))
theorem st_Ls {c : Int} {ls : List Lk} (z : Z c ls) (hc : c ≤ 50) (acc : List D) (p : Int) (hl : acc.length < 1000000) : bd_Ls [some (.dat (encY c ls)), some (.own acc), some (.dat (.int p)), none] = some (.nx [some (.dat (encY c ls)), some (.own (acc ++ [.int (sz ls p)])), some (.dat (.int p)), none]) := by
  have h1 := z.c1
  have hlen : (nums (c + 1)).length ≤ 1000000 := by rw [nums_len]; omega
  have hcm := compL_all (g := gName 3) (f := eCall Dg.L_between (aCons (eVar 0) (aCons (eVar 2) (aCons (eVar 3) aNil)))) (fun q => PyData.int (q - 1)) [some (.dat (encY c ls)), some (.own acc), some (.dat (.int p)), none] (fun q => .int (Lbt ls p (q - 1))) (nums (c + 1)) (fun q hq => ⟨[some (.dat (encY c ls)), some (.own acc), some (.dat (.int p)), some (.dat (.int (q - 1)))], by simp, by simp [ev_Lbt z.toG]⟩)
  have hm : ((nums (c + 1)).map fun q => PyData.int (Lbt ls p (q - 1))) = ((nums (c + 1)).map fun q => Lbt ls p (q - 1)).map .int := by
    rw [List.map_map]
    rfl
  have e0 : iRng1 (e2 addD (e2 ixD (eVarW 0) (eC (.int 0))) (eC (.int 1))) [some (.dat (encY c ls)), some (.own acc), some (.dat (.int p)), none] = some (.ok ((nums (c + 1)).map fun q => .int (q - 1))) := by
    simp [encY, rng0 (c := c + 1) (by omega) (by omega)]
  unfold bd_Ls
  simp only [ev_sApp, List.getElem?_cons_succ, List.getElem?_cons_zero, ev_e1, ev_comp]
  rw [e0]
  simp only [bnd_ok, List.length_map, if_pos hlen, ev_wipe0, ev_wipe1, List.set_cons_succ, List.set_cons_zero]
  rw [hcm, hm]
  simp only [bnd_ok, ev_ret, ev_sum, lft_some, bS_ok, su_Lbt c p ls z.rng, if_pos hl]
theorem ev_Lsizes {c : Int} {ls : List Lk} (z : Z c ls) (hc : c ≤ 50) : Dg.L_sizes [encY c ls] = some (.ok (encI c (sz ls))) := by
  refine runF_ok rfl ?_
  show Dg.b_L_sizes [some (.dat (encY c ls)), none, none, none] = _
  have h1 := z.c1
  have hn : (nums c).length ≤ 100 := by rw [nums_len]; omega
  obtain ⟨ρ', hf, s2, rfl⟩ := forL_I (g := gName 2) (b := bd_Ls) PyData.int (fun pre ρ => ∃ s2, ρ = [some (.dat (encY c ls)), some (.own (pre.map fun p => .int (sz ls p))), s2, none]) (nums c) [] [some (.dat (encY c ls)), some (.own []), none, none] ⟨none, rfl⟩ (by
    rintro pr x po ρ hp ⟨s2, rfl⟩
    rw [List.nil_append] at hp
    have hpl : pr.length < (nums c).length := by
      rw [hp, List.length_append, List.length_cons]
      omega
    refine ⟨_, _, rfl, st_Ls z hc (pr.map fun p => .int (sz ls p)) x (by rw [List.length_map]; omega), some (.dat (.int x)), ?_⟩
    rw [List.map_append]
    rfl)
  have e0 : iRng2 (eC (.int 1)) (e2 addD (e2 ixD (eVarW 0) (eC (.int 0))) (eC (.int 1))) [some (.dat (encY c ls)), some (.own []), none, none] = some (.ok ((nums c).map .int)) := by
    simp [encY, rng_nums (c := c) (by omega) (by omega)]
  unfold Dg.b_L_sizes
  rw [seq_nx (ρ' := [some (.dat (encY c ls)), some (.own []), none, none]) (by simp)]
  rw [seq_nx (by
    rw [ev_sFor, e0]
    exact hf)]
  rfl
/-! forced -/
def LI (c : Int) (f : Int → Int) : List D := (nums c).map fun p => .int (f p)
theorem LI_ix {c p : Int} (f : Int → Int) (h : p ∈ nums c) : ixD (.list (LI c f)) (.int (p - 1)) = some (.int (f p)) := by
  have h2 := ixF f h
  unfold encF encG at h2
  rw [List.map_map] at h2
  exact h2
def px (p : Int) : Nat := (p - 1).toNat
theorem LI_nat {c p : Int} (f : Int → Int) (h : p ∈ nums c) : ixNat (LI c f).length (p - 1) = some (px p) := by
  show _ = some (p - 1).toNat
  have hb := mem_nums.mp h
  unfold ixNat LI
  rw [List.length_map, nums_len, if_pos (by omega), if_pos (by omega)]
theorem LI_set {c p : Int} (f : Int → Int) (v : Int) (h : p ∈ nums c) : (LI c f).set (px p) (.int v) = LI c fun q => if q = p then v else f q := by
  show (LI c f).set (p - 1).toNat (.int v) = _
  have hb := mem_nums.mp h
  refine List.ext_getElem? fun i => ?_
  unfold LI
  rw [List.getElem?_map]
  by_cases hi : i < (nums c).length
  · have hi2 : i < c.toNat := by rw [nums_len] at hi; exact hi
    have hv : (nums c)[i]? = some (1 + (i : Int)) := by
      unfold nums
      rw [List.getElem?_map, List.getElem?_range hi2]
      rfl
    rw [hv]
    by_cases e : (p - 1).toNat = i
    · rw [e, List.getElem?_set_self (by rw [List.length_map]; exact hi)]
      have : (1 + (i : Int)) = p := by omega
      show _ = some (PyData.int (if 1 + (i : Int) = p then v else _))
      rw [if_pos this]
    · rw [List.getElem?_set_ne e, List.getElem?_map, hv]
      have : ¬ (1 + (i : Int)) = p := by omega
      show some (PyData.int _) = some (PyData.int (if 1 + (i : Int) = p then v else _))
      rw [if_neg this]
  · rw [List.getElem?_eq_none (by rw [List.length_set, List.length_map]; omega), List.getElem?_eq_none (by omega)]
    rfl
end Pe

set_option maxHeartbeats 4400000
namespace Pe
open Dn
open PySem (PyData)
noncomputable def bd_f1 : SF := sIf (asB (e2 neD (eVarW 6) (eVarW 4))) (sAsg (gName 5) (e2 addD (eVarW 5) (e2 mulD (e2 ixD (eVarW 2) (e2 subD (eVarW 6) (eC (.int 1)))) (eCall Dg.P_between (aCons (eVar 0) (aCons (eVar 4) (aCons (eVar 6) aNil))))))) sNx
noncomputable def bd_f2 : SF := sSeq (sAsg (gName 5) (e2 subD (e2 ixD (eVarW 1) (e2 subD (eVarW 4) (eC (.int 1)))) (e2 mulD (e2 ixD (eVarW 2) (e2 subD (eVarW 4) (eC (.int 1)))) (e2 ixD (eCall Dg.P_sizes (aCons (eVar 0) aNil)) (e2 subD (eVarW 4) (eC (.int 1)))))))
    (sSeq (sFor (iRng2 (eC (.int 1)) (e2 addD (e2 ixD (eVarW 0) (eC (.int 0))) (eC (.int 1)))) (gName 6) bd_f1)
    (sApp 3 (eVar 5)))
theorem numC {c : Int} {ls : List Lk} (k : G c ls) (ρ : Dn.Env) (h : ρ[0]? = some (some (.dat (encY c ls)))) : iRng2 (eC (.int 1)) (e2 addD (e2 ixD (eVarW 0) (eC (.int 0))) (eC (.int 1))) ρ = some (.ok ((nums c).map .int)) := by
  have hc := k.c1
  simp [h, encY]
  rw [rng_nums (by omega) k.c2]
  rfl
theorem st_f1 {c : Int} {ls : List Lk} (k : G c ls) (g t : Int → Int) {p o : Int} (hp : p ∈ nums c) (ho : o ∈ nums c) (acc : List D) (left : Int) :
    bd_f1 [some (.dat (encY c ls)), some (.dat (encF c g)), some (.dat (encF c t)), some (.own acc), some (.dat (.int p)), some (.dat (.int left)), some (.dat (.int o))]
      = some (.nx [some (.dat (encY c ls)), some (.dat (encF c g)), some (.dat (encF c t)), some (.own acc), some (.dat (.int p)), some (.dat (.int (if o = p then left else left + t o * btw ls p o))), some (.dat (.int o))]) := by
  have hb := btw_bound k.m1 p o
  by_cases h : o = p
  · subst h
    simp [bd_f1]
  · simp [bd_f1, h, ixF t ho, ev_between, mulD_small (a := t o) (b := btw ls p o) (by omega)]
theorem lp_f1 {c : Int} {ls : List Lk} (k : G c ls) (g t : Int → Int) {p : Int} (hp : p ∈ nums c) (acc : List D) (left : Int) (j : Option Sl) :
    ∃ j', forL (gName 6) bd_f1 ((nums c).map .int) [some (.dat (encY c ls)), some (.dat (encF c g)), some (.dat (encF c t)), some (.own acc), some (.dat (.int p)), some (.dat (.int left)), j]
      = some (.nx [some (.dat (encY c ls)), some (.dat (encF c g)), some (.dat (encF c t)), some (.own acc), some (.dat (.int p)), some (.dat (.int ((nums c).foldl (fun left o => if o = p then left else left + t o * btw ls p o) left))), j']) := by
  have h := forL_pre (g := gName 6) (b := bd_f1) PyData.int (fun pre => [some (.dat (encY c ls)), some (.dat (encF c g)), some (.dat (encF c t)), some (.own acc), some (.dat (.int p)), some (.dat (.int (pre.foldl (fun left o => if o = p then left else left + t o * btw ls p o) left))), (pre.getLast?.map fun q => some (.dat (.int q))).getD j]) (nums c) [] (by
    intro pr x po hx
    refine ⟨_, rfl, ?_⟩
    have hx' : x ∈ nums c := by
      rw [List.nil_append] at hx
      rw [hx]
      simp
    have := st_f1 k g t hp hx' acc (pr.foldl (fun left o => if o = p then left else left + t o * btw ls p o) left)
    simpa [List.foldl_append] using this)
  exact ⟨_, h⟩
theorem st_f2 {c : Int} {ls : List Lk} (k : G c ls) (g t : Int → Int) {p : Int} (hp : p ∈ nums c) (acc : List D) (hacc : acc.length < 1000000) (s5 s6 : Option Sl) :
    ∃ s6', bd_f2 [some (.dat (encY c ls)), some (.dat (encF c g)), some (.dat (encF c t)), some (.own acc), some (.dat (.int p)), s5, s6]
      = some (.nx [some (.dat (encY c ls)), some (.dat (encF c g)), some (.dat (encF c t)), some (.own (acc ++ [.int (fo c ls g t p)])), some (.dat (.int p)), some (.dat (.int (fo c ls g t p))), s6']) := by
  obtain ⟨s6', h⟩ := lp_f1 k g t hp acc (g p - t p * sz ls p) s6
  refine ⟨s6', ?_⟩
  have hs := sz_bound k p
  have hsz : ixD (encG ((nums c).map (sz ls))) (.int (p - 1)) = some (.int (sz ls p)) := ixF (sz ls) hp
  unfold bd_f2
  rw [ev_sSeq]
  simp only [ev_sAsg, ev_e2, ev_varW, ev_c, ev_call, ev_aCons, ev_aNil, ev_var, List.getElem?_cons_succ, List.getElem?_cons_zero, ev_ret, bnd_ok, ev_subI, lft_some, ixF g hp, ixF t hp, ev_sizes k, hsz, mulD_small (a := t p) (b := sz ls p) (by omega), bS_ok, ev_gName, Option.map_some, List.set_cons_succ, List.set_cons_zero]
  rw [ev_sSeq, ev_sFor, numC k _ (by simp)]
  simp only [bS_ok]
  rw [h]
  simp [hacc, fo]
theorem ev_forced {c : Int} {ls : List Lk} (k : G c ls) (g t : Int → Int) : Dg.P_forced [encY c ls, encF c g, encF c t] = some (.ok (encF c (fo c ls g t))) := by
  refine runF_ok rfl ?_
  show Dg.b_P_forced [some (.dat (encY c ls)), some (.dat (encF c g)), some (.dat (encF c t)), none, none, none, none] = _
  have hn : (nums c).length ≤ 100 := by
    rw [nums_len]
    have := k.c2
    omega
  have hl : ∀ (post : List Int) (acc : List D) (s4 s5 s6 : Option Sl), (∀ p ∈ post, p ∈ nums c) → acc.length + post.length ≤ 1000 → ∃ s4' s5' s6', forL (gName 4) bd_f2 (post.map .int) [some (.dat (encY c ls)), some (.dat (encF c g)), some (.dat (encF c t)), some (.own acc), s4, s5, s6]
      = some (.nx [some (.dat (encY c ls)), some (.dat (encF c g)), some (.dat (encF c t)), some (.own (acc ++ post.map fun p => .int (fo c ls g t p))), s4', s5', s6']) := by
    intro post
    induction post with
    | nil =>
      intro acc s4 s5 s6 _ _
      exact ⟨s4, s5, s6, by simp [forL]⟩
    | cons p post ih =>
      intro acc s4 s5 s6 hm hz
      rw [List.length_cons] at hz
      obtain ⟨s6', h⟩ := st_f2 k g t (hm p List.mem_cons_self) acc (by omega) s5 s6
      obtain ⟨a4, a5, a6, h2⟩ := ih (acc ++ [.int (fo c ls g t p)]) (some (.dat (.int p))) (some (.dat (.int (fo c ls g t p)))) s6' (fun q hq => hm q (List.mem_cons_of_mem _ hq)) (by rw [List.length_append, List.length_singleton]; omega)
      refine ⟨a4, a5, a6, ?_⟩
      rw [List.map_cons]
      unfold forL
      simp only [ev_gName, List.set_cons_succ, List.set_cons_zero]
      rw [h]
      simp only
      rw [h2]
      simp
  obtain ⟨a4, a5, a6, h⟩ := hl (nums c) [] none none none (fun p hp => hp) (by simp; omega)
  unfold Dg.b_P_forced
  rw [ev_sSeq]
  simp only [ev_sOwn, ev_lst, ev_aNil, bnd_ok, List.length_nil, Nat.zero_le, if_true, ev_ret, bS_ok, List.set_cons_succ, List.set_cons_zero]
  rw [ev_sSeq, ev_sFor, numC k _ (by simp)]
  simp only [bS_ok]
  show (match forL (gName 4) bd_f2 (List.map PyData.int (nums c)) _ with
    | some (.nx ρ') => sRet (e1 tupD (eVarW 3)) ρ'
    | x => x) = _
  rw [h]
  simp [encF, encG]
end Pe

set_option maxHeartbeats 4400000
namespace Pe
open Dn
open PySem (PyData)
/-! settled -/
noncomputable def bd_s : SF := sSeq (sAsg (gName 5) (eComp (iZip (eVar 3) (eVar 2)) (gTup [6, 7]) tYesF (e2 fdivD (eVarW 6) (eVarW 7)) [6, 7]))
    (sSeq (sAsg (gName 3) (eCall Dg.P_forced (aCons (eVar 0) (aCons (eVar 3) (aCons (e1 tupD (eVarW 5)) aNil)))))
    (sAsg (gName 4) (eComp (iZip (eVar 4) (eVar 5)) (gTup [8, 9]) tYesF (e2 addD (eVarW 8) (eVarW 9)) [8, 9])))
noncomputable def tt_s : TF := tNotF (asB (eCall Dg.P_rests (aCons (eVar 0) (aCons (eVar 3) aNil))))
def stS (c : Int) (ls : List Lk) (g at_ u : Int → Int) (j : Option Sl) : Dn.Env := [some (.dat (encY c ls)), some (.dat (encF c g)), some (.dat (encF c (sz ls))), some (.dat (encF c at_)), some (.dat (encI c u)), j, none, none, none, none]
theorem st_s {c : Int} {ls : List Lk} (k : Y c ls) (g at_ u : Int → Int) (j : Option Sl) : ∃ j', bd_s (stS c ls g at_ u j) = some (.nx (stS c ls g (fo c ls at_ fun p => at_ p / sz ls p) (fun p => u p + at_ p / sz ls p) j')) := by
  have hlen : (nums c).length ≤ 1000000 := nums_small k.toG
  have hc1 := compL_all (g := gTup [6, 7]) (f := e2 fdivD (eVarW 6) (eVarW 7)) (fun p => PyData.tuple [.int (at_ p), .int (sz ls p)]) (stS c ls g at_ u j) (fun p => .int (at_ p / sz ls p)) (nums c) (fun p hp => ⟨[some (.dat (encY c ls)), some (.dat (encF c g)), some (.dat (encF c (sz ls))), some (.dat (encF c at_)), some (.dat (encI c u)), j, some (.dat (.int (at_ p))), some (.dat (.int (sz ls p))), none, none], by simp [stS], by
    have h1 := k.s1 p hp
    have h2 := (sz_bound k.toG p).2
    have e : 0 < sz ls p ∧ sz ls p < 1073741824 := by omega
    simp [fdivD, e]⟩)
  have hc2 := compL_all (g := gTup [8, 9]) (f := e2 addD (eVarW 8) (eVarW 9)) (fun p => PyData.tuple [.int (u p), .int (at_ p / sz ls p)]) (stS c ls g (fo c ls at_ fun p => at_ p / sz ls p) u (some (.dat (encI c fun p => at_ p / sz ls p)))) (fun p => .int (u p + at_ p / sz ls p)) (nums c) (fun p hp => ⟨[some (.dat (encY c ls)), some (.dat (encF c g)), some (.dat (encF c (sz ls))), some (.dat (encF c (fo c ls at_ fun p => at_ p / sz ls p))), some (.dat (encI c u)), (some (.dat (encI c fun p => at_ p / sz ls p))), none, none, some (.dat (.int (u p))), some (.dat (.int (at_ p / sz ls p)))], by simp [stS], by simp⟩)
  have ht : tupD (encI c fun p => at_ p / sz ls p) = some (encF c fun p => at_ p / sz ls p) := by
    show some _ = some _
    unfold encF encG
    rw [List.map_map]
    rfl
  refine ⟨some (.dat (encI c fun p => at_ p / sz ls p)), ?_⟩
  unfold bd_s
  simp only [stS] at hc1 hc2 ⊢
  simp only [ev_sSeq, ev_sAsg, ev_comp, ev_iZip, ev_var, List.getElem?_cons_succ, List.getElem?_cons_zero, ev_ret, bnd_ok, zip_F, lft_some, List.length_map, if_pos hlen, ev_wipe0, ev_wipe1, List.set_cons_succ, List.set_cons_zero]
  rw [hc1]
  have e1 : PyData.list ((nums c).map fun p => PyData.int (at_ p / sz ls p)) = encI c fun p => at_ p / sz ls p := rfl
  simp only [bnd_ok, bS_ok, ev_gName, Option.map_some, List.set_cons_succ, List.set_cons_zero, e1, ev_call, ev_aCons, ev_aNil, ev_e1, ev_varW, ev_var, List.getElem?_cons_succ, List.getElem?_cons_zero, ev_ret, ht, lft_some, ev_forced k.toG, zip_I, List.length_map, if_pos hlen]
  rw [hc2]
  rfl
theorem tt_ev {c : Int} {ls : List Lk} (k : Y c ls) (g at_ u : Int → Int) (j : Option Sl) : tt_s (stS c ls g at_ u j) = some (.ok (!rst c ls at_)) := by
  unfold tt_s stS
  simp [tNotF, ev_rests k.toG]
theorem lp_s {c : Int} {ls : List Lk} (k : Y c ls) {g T : Int → Int} (hT : Stab c ls g T) : ∀ (n : Nat) (u : Int → Int) (j : Option Sl), (∀ p ∈ nums c, 0 ≤ u p) → (∀ p ∈ nums c, 0 ≤ fo c ls g u p) → (∀ t, Stab c ls g t → ∀ p ∈ nums c, u p ≤ t p) → sumN c T - sumN c u < n →
    ∃ u' j' m, Odo c ls g u' ∧ whileN m tt_s bd_s (stS c ls g (fo c ls g u) u j) = some (.nx (stS c ls g (fo c ls g u') u' j'))
  | 0, u, j, _, _, h3, h4 => by
    have := sum_map_le u T (nums c) (h3 T hT)
    unfold sumN at h4
    omega
  | n + 1, u, j, h1, h2, h3, h4 => by
    by_cases hr : rst c ls (fo c ls g u) = true
    · refine ⟨u, j, 1, ⟨⟨h1, fun p hp => ?_⟩, h2, h3⟩, ?_⟩
      · have := List.all_eq_true.mp hr p hp
        exact of_decide_eq_true this
      · unfold whileN
        rw [tt_ev k, hr]
        rfl
    · have hs : ∀ p ∈ nums c, 0 ≤ fo c ls g u p / sz ls p ∧ fo c ls g u p / sz ls p * sz ls p ≤ fo c ls g u p := fun p hp => by
        have hz := k.s1 p hp
        exact ⟨Int.ediv_nonneg (h2 p hp) (by omega), Int.ediv_mul_le _ (by omega)⟩
      obtain ⟨j', hb⟩ := st_s k g (fo c ls g u) u j
      have hf : (fo c ls (fo c ls g u) fun p => fo c ls g u p / sz ls p) = fo c ls g (fun p => u p + fo c ls g u p / sz ls p) := by
        funext p
        rw [← fo_add]
      rw [hf] at hb
      have hlap : ∀ t, Stab c ls g t → ∀ p ∈ nums c, u p + fo c ls g u p / sz ls p ≤ t p := fun t ht => lap k (s := fun p => fo c ls g u p / sz ls p) (h3 t ht) (fun p hp => (hs p hp).2) ht.2
      have hlt : sumN c u < sumN c fun p => u p + fo c ls g u p / sz ls p := by
        refine sum_lt (fun p hp => by have := (hs p hp).1; omega) ?_
        have : ∃ p ∈ nums c, sz ls p ≤ fo c ls g u p := by
          by_cases he : ∃ p ∈ nums c, sz ls p ≤ fo c ls g u p
          · exact he
          · exfalso
            apply hr
            refine List.all_eq_true.mpr fun p hp => decide_eq_true ?_
            by_cases hq : fo c ls g u p < sz ls p
            · exact hq
            · exact absurd ⟨p, hp, by omega⟩ he
        obtain ⟨p, hp, hq⟩ := this
        have hz := k.s1 p hp
        have : 1 ≤ fo c ls g u p / sz ls p := (Int.le_ediv_iff_mul_le (by omega)).mpr (by omega)
        exact ⟨p, hp, by omega⟩
      obtain ⟨u', j2, m, ho, hm⟩ := lp_s k hT n (fun p => u p + fo c ls g u p / sz ls p) j' (fun p hp => by
          have := (hs p hp).1
          have := h1 p hp
          show 0 ≤ u p + fo c ls g u p / sz ls p
          omega) (fun p hp => by
          have e := congrFun hf p
          rw [← e, fo_eq]
          have := (hs p hp).2
          have := inc_nonneg k.toG p (t := fun p => fo c ls g u p / sz ls p) fun o ho => (hs o ho).1
          omega) hlap (by omega)
      refine ⟨u', j2, m + 1, ho, ?_⟩
      unfold whileN
      rw [tt_ev k, Bool.eq_false_iff.mpr hr]
      simp only [Bool.not_false, bS_ok, if_true]
      rw [hb]
      exact hm
theorem ev_settled {c : Int} {ls : List Lk} (k : Y c ls) {g : Int → Int} (hg : ∀ p ∈ nums c, 0 ≤ g p) : ∃ u, Odo c ls g u ∧ Dg.P_settled [encY c ls, encF c g] = some (.ok (.tuple [encF c (fo c ls g u), encF c u])) := by
  obtain ⟨T, hT⟩ := stab_ex k g
  have hz : (fo c ls g fun _ => 0) = g := funext fun p => fo_zero c ls g p
  obtain ⟨u, j, m, ho, hm⟩ := lp_s k hT ((sumN c T - sumN c fun _ => 0).toNat + 1) (fun _ => 0) none (fun _ _ => Int.le_refl _) (fun p hp => by rw [hz]; exact hg p hp) (fun t ht p hp => ht.1 p hp) (by omega)
  rw [hz] at hm
  refine ⟨u, ho, runF_ok rfl ?_⟩
  show Dg.b_P_settled [some (.dat (encY c ls)), some (.dat (encF c g)), none, none, none, none, none, none, none, none] = _
  unfold Dg.b_P_settled
  have hc1 := k.c1
  have hc2 := k.c2
  have e0 : ∀ ρ : Dn.Env, ρ[0]? = some (some (.dat (encY c ls))) → eRep (eLst (aCons (eC (.int 0)) aNil)) (e2 ixD (eVarW 0) (eC (.int 0))) ρ = some (.ok (encI c fun _ => 0)) := fun ρ hρ => by
    simp [eRep, hρ, encY]
    have hq : 0 ≤ c ∧ c ≤ 1000 := by omega
    simp [hq, ← enc0]
  have es : encG ((nums c).map (sz ls)) = encF c (sz ls) := rfl
  rw [ev_sSeq]
  simp only [ev_sAsg, ev_call, ev_aCons, ev_aNil, ev_var, List.getElem?_cons_succ, List.getElem?_cons_zero, ev_ret, bnd_ok, ev_sizes k.toG, bS_ok, ev_gName, Option.map_some, List.set_cons_succ, List.set_cons_zero, es]
  rw [ev_sSeq]
  simp only [ev_sAsg, ev_var, List.getElem?_cons_succ, List.getElem?_cons_zero, ev_ret, bS_ok, ev_gName, Option.map_some, List.set_cons_succ, List.set_cons_zero]
  rw [ev_sSeq]
  simp only [ev_sAsg]
  rw [e0 _ rfl]
  simp only [bS_ok, ev_gName, Option.map_some, List.set_cons_succ, List.set_cons_zero]
  rw [ev_sSeq]
  have hw := sWhile_of hm
  show (match sWhile tt_s bd_s (stS c ls g g (fun _ => 0) none) with
    | some (.nx ρ') => sRet (eTup (aCons (eVar 3) (aCons (e1 tupD (eVarW 4)) aNil))) ρ'
    | x => x) = _
  rw [hw]
  simp [stS, tupI]
end Pe

set_option maxHeartbeats 4400000
namespace Pe
open Dn
open PySem (PyData)
open Classical in
noncomputable def od (c : Int) (ls : List Lk) (g : Int → Int) : Int → Int := if h : ∃ u, Odo c ls g u then h.choose else fun _ => 0
noncomputable def S (c : Int) (ls : List Lk) (g : Int → Int) : Int → Int := fo c ls g (od c ls g)
theorem od_spec {c : Int} {ls : List Lk} (k : Y c ls) {g : Int → Int} (hg : NN c g) : Odo c ls g (od c ls g) := by
  have h : ∃ u, Odo c ls g u := by
    obtain ⟨u, hu, _⟩ := ev_settled k hg
    exact ⟨u, hu⟩
  unfold od
  rw [dif_pos h]
  exact h.choose_spec
theorem od_eq {c : Int} {ls : List Lk} (k : Y c ls) {g u : Int → Int} (hg : NN c g) (h : Odo c ls g u) : EqP c (od c ls g) u := (od_spec k hg).uniq h
theorem S_eq {c : Int} {ls : List Lk} (k : Y c ls) {g u : Int → Int} (hg : NN c g) (h : Odo c ls g u) : EqP c (S c ls g) (fo c ls g u) := fun p hp => fo_congr hp rfl (od_eq k hg h)
theorem S_nn {c : Int} {ls : List Lk} (k : Y c ls) {g : Int → Int} (hg : NN c g) : NN c (S c ls g) := (od_spec k hg).nn
theorem od_congr {c : Int} {ls : List Lk} (k : Y c ls) {g g' : Int → Int} (hg : NN c g) (h : EqP c g g') : EqP c (od c ls g) (od c ls g') := by
  have hg' : NN c g' := fun p hp => by rw [← h p hp]; exact hg p hp
  exact od_eq k hg ((od_spec k hg').congr h.symm EqP.rfl)
theorem S_congr {c : Int} {ls : List Lk} (k : Y c ls) {g g' : Int → Int} (hg : NN c g) (h : EqP c g g') : EqP c (S c ls g) (S c ls g') := fun p hp => fo_congr hp (h p hp) (od_congr k hg h)
theorem evS {c : Int} {ls : List Lk} (k : Y c ls) {g : Int → Int} (hg : NN c g) : Dg.P_settled [encY c ls, encF c g] = some (.ok (.tuple [encF c (S c ls g), encF c (od c ls g)])) := by
  obtain ⟨u, hu, h⟩ := ev_settled k hg
  rw [h, encF_congr (S_eq k hg hu), encF_congr (od_eq k hg hu)]
theorem od_add {c : Int} {ls : List Lk} (k : Y c ls) {g h : Int → Int} (hg : NN c g) (hh : NN c h) : EqP c (od c ls fun p => g p + h p) fun p => od c ls g p + od c ls (fun p => S c ls g p + h p) p :=
  od_eq k (hg.add hh) ((od_spec k hg).then hh (od_spec k ((S_nn k hg).add hh)))
theorem S_add {c : Int} {ls : List Lk} (k : Y c ls) {g h : Int → Int} (hg : NN c g) (hh : NN c h) : EqP c (S c ls fun p => g p + h p) (S c ls fun p => S c ls g p + h p) := fun p hp => by
  have e := S_eq k (hg.add hh) ((od_spec k hg).then hh (od_spec k ((S_nn k hg).add hh))) p hp
  rw [e, fo_add]
  refine fo_congr hp (fo_plus _ _ _ _ _ _) fun _ _ => rfl
end Pe

set_option maxHeartbeats 4400000
namespace Pe
open Dn
open PySem (PyData)
noncomputable def bd_fi : SF := (Dn.sIf (Dn.asB (Dn.e2 Dn.gtD (Dn.eVarW 7) (Dn.eC (.int 0)))) (Dn.sSeq (Dn.sSetIx 3 (Dn.e2 Dn.subD (Dn.eVarW 7) (Dn.eC (.int 1))) (Dn.e2 Dn.subD (Dn.e2 Dn.ixD (Dn.eVarW 3) (Dn.e2 Dn.subD (Dn.eVarW 7) (Dn.eC (.int 1)))) (Dn.e2 Dn.mulD (Dn.eVarW 6) (Dn.e2 Dn.ixD (Dn.eVarW 2) (Dn.e2 Dn.subD (Dn.eVarW 7) (Dn.eC (.int 1)))))))
    (Dn.sIf (Dn.asB (Dn.e2 Dn.gtD (Dn.eVarW 8) (Dn.eC (.int 0)))) (Dn.sSetIx 3 (Dn.e2 Dn.subD (Dn.eVarW 8) (Dn.eC (.int 1))) (Dn.e2 Dn.addD (Dn.e2 Dn.ixD (Dn.eVarW 3) (Dn.e2 Dn.subD (Dn.eVarW 8) (Dn.eC (.int 1)))) (Dn.e2 Dn.mulD (Dn.eVarW 6) (Dn.e2 Dn.ixD (Dn.eVarW 2) (Dn.e2 Dn.subD (Dn.eVarW 7) (Dn.eC (.int 1))))))) Dn.sNx)) Dn.sNx)
theorem st_fi {c m a b : Int} {y gg T : D} {t f : Int → Int} {s4 s5 : Option Sl} (hT : ∀ p ∈ nums c, ixD T (.int (p - 1)) = some (.int (t p))) (hm : 0 ≤ m ∧ m ≤ 100) (ha : 0 ≤ a ∧ a ≤ c) (hb : 0 ≤ b ∧ b ≤ c) :
    bd_fi [some (.dat y), some (.dat gg), some (.dat T), some (.own (LI c f)), s4, s5, some (.dat (.int m)), some (.dat (.int a)), some (.dat (.int b))]
      = some (.nx [some (.dat y), some (.dat gg), some (.dat T), some (.own (LI c (ed t f m a b))), s4, s5, some (.dat (.int m)), some (.dat (.int a)), some (.dat (.int b))]) := by
  by_cases h1 : a > 0
  · have ma : a ∈ nums c := mem_nums.mpr ⟨by omega, ha.2⟩
    have mm : mulD (.int m) (.int (t a)) = some (.int (m * t a)) := mul_l (by omega)
    have h0 : 0 < a := h1
    by_cases h2 : b > 0
    · have mb : b ∈ nums c := mem_nums.mpr ⟨by omega, hb.2⟩
      have h02 : 0 < b := h2
      simp [bd_fi, h0, h02, sSetIx, hT a ma, mm, LI_ix _ ma, LI_nat _ ma, LI_set _ _ ma, LI_ix _ mb, LI_nat _ mb, LI_set _ _ mb]
      congr 1
      funext q
      unfold ed
      rw [if_pos h1, if_pos h2]
      by_cases q1 : q = b
      · by_cases q2 : b = a
        · simp [q1, q2]
        · simp [q1, q2]
      · by_cases q2 : q = a
        · subst q2
          simp [q1]
        · simp [q1, q2]
    · have h02 : ¬ 0 < b := h2
      simp [bd_fi, h0, h02, sSetIx, hT a ma, mm, LI_ix _ ma, LI_nat _ ma, LI_set _ _ ma]
      congr 1
      funext q
      unfold ed
      rw [if_pos h1, if_neg h2]
      by_cases q2 : q = a
      · subst q2
        simp
      · simp [q2]
  · have h0 : ¬ 0 < a := h1
    have : ed t f m a b = f := by
      funext q
      unfold ed
      rw [if_neg h1]
    rw [this]
    simp [bd_fi, h0]
noncomputable def bd_fo : SF := (Dn.sFor (Dn.iSeq (Dn.eTup (Dn.aCons (Dn.eTup (Dn.aCons (Dn.eVar 4) (Dn.aCons (Dn.eVar 5) Dn.aNil))) (Dn.aCons (Dn.eTup (Dn.aCons (Dn.eVar 5) (Dn.aCons (Dn.eVar 4) Dn.aNil))) Dn.aNil)))) (Dn.gTup [7, 8]) bd_fi)
theorem ev_Lforced {c : Int} {ls : List Lk} (z : Z c ls) (hc : c ≤ 50) (g : Int → Int) {t : Int → Int} {T : D} (hT : ∀ p ∈ nums c, ixD T (.int (p - 1)) = some (.int (t p))) : Dg.L_forced [encY c ls, encF c g, T] = some (.ok (encF c (fo c ls g t))) := by
  refine runF_ok rfl ?_
  show Dg.b_L_forced [some (.dat (encY c ls)), some (.dat (encF c g)), some (.dat T), none, none, none, none, none, none] = _
  obtain ⟨ρ', hf, s4, s5, s6, s7, s8, rfl⟩ := forL_I (g := gTup [4, 5, 6]) (b := bd_fo) encL (fun pre ρ => ∃ s4 s5 s6 s7 s8, ρ = [some (.dat (encY c ls)), some (.dat (encF c g)), some (.dat T), some (.own (LI c (pre.foldl (stp t) g))), s4, s5, s6, s7, s8]) ls [] [some (.dat (encY c ls)), some (.dat (encF c g)), some (.dat T), some (.own (LI c g)), none, none, none, none, none] ⟨_, _, _, _, _, rfl⟩ (by
    rintro pr x po ρ hp ⟨s4, s5, s6, s7, s8, rfl⟩
    rw [List.nil_append] at hp
    have hx : x ∈ ls := by
      rw [hp]
      simp
    have hr := z.rng x hx
    have hm := z.m1 x hx
    refine ⟨_, _, rfl, ?_, some (.dat (.int x.1)), some (.dat (.int x.2.1)), some (.dat (.int x.2.2)), some (.dat (.int x.2.1)), some (.dat (.int x.1)), rfl⟩
    have w1 := st_fi (c := c) (y := encY c ls) (gg := encF c g) (f := pr.foldl (stp t) g) (s4 := some (.dat (.int x.1))) (s5 := some (.dat (.int x.2.1))) hT hm (a := x.1) (b := x.2.1) (by omega) (by omega)
    have w2 := st_fi (c := c) (y := encY c ls) (gg := encF c g) (f := ed t (pr.foldl (stp t) g) x.2.2 x.1 x.2.1) (s4 := some (.dat (.int x.1))) (s5 := some (.dat (.int x.2.1))) hT hm (a := x.2.1) (b := x.1) (by omega) (by omega)
    unfold bd_fo
    simp [forL, w1, w2, stp])
  have e0 : e1 lstD (eVarW 1) [some (.dat (encY c ls)), some (.dat (encF c g)), some (.dat T), none, none, none, none, none, none] = some (.ok (.list (LI c g))) := by
    simp [lstD, encF, encG, LI]
  have e2' : iSeq (e2 ixD (eVarW 0) (eC (.int 1))) [some (.dat (encY c ls)), some (.dat (encF c g)), some (.dat T), some (.own (LI c g)), none, none, none, none, none] = some (.ok (ls.map encL)) := by
    simp [encY, encLs]
  unfold Dg.b_L_forced
  rw [seq_nx (ρ' := [some (.dat (encY c ls)), some (.dat (encF c g)), some (.dat T), some (.own (LI c g)), none, none, none, none, none]) (by
    rw [ev_sOwn, e0]
    rfl)]
  rw [seq_nx (by
    rw [ev_sFor, e2']
    exact hf)]
  have ee : tupD (.list (LI c (ls.foldl (stp t) g))) = some (encF c (fo c ls g t)) := by
    have := tupI c (ls.foldl (stp t) g)
    rw [encF_congr (fold_fo z g t)] at this
    exact this
  simp only [List.nil_append, ev_sRet, ev_e1, ev_varW, List.getElem?_cons_succ, List.getElem?_cons_zero, ev_ret, bnd_ok]
  rw [ee]
  rfl
end Pe

set_option maxHeartbeats 4400000
namespace Pe
open Dn
open PySem (PyData)
/-! put -/
theorem ev_put {c : Int} {ls : List Lk} (k : Y c ls) {g h : Int → Int} (hg : ∀ p ∈ nums c, 0 ≤ g p) (hh : ∀ p ∈ nums c, 0 ≤ h p) : ∃ u, Odo c ls (fun p => g p + h p) u ∧ Dg.P_put [encY c ls, encF c g, encF c h] = some (.ok (encF c (fo c ls (fun p => g p + h p) u))) := by
  obtain ⟨u, ho, hs⟩ := ev_settled k (g := fun p => g p + h p) fun p hp => by have := hg p hp; have := hh p hp; show 0 ≤ g p + h p; omega
  refine ⟨u, ho, runF_ok rfl ?_⟩
  show Dg.b_P_put [some (.dat (encY c ls)), some (.dat (encF c g)), some (.dat (encF c h)), none, none] = _
  have hlen := nums_small k.toG
  have hc := compL_all (g := gTup [3, 4]) (f := e2 addD (eVarW 3) (eVarW 4)) (fun p => PyData.tuple [.int (g p), .int (h p)]) [some (.dat (encY c ls)), some (.dat (encF c g)), some (.dat (encF c h)), none, none] (fun p => .int (g p + h p)) (nums c) (fun p hp => ⟨[some (.dat (encY c ls)), some (.dat (encF c g)), some (.dat (encF c h)), some (.dat (.int (g p))), some (.dat (.int (h p)))], by simp, by simp⟩)
  have e1 : PyData.list ((nums c).map fun p => PyData.int (g p + h p)) = encI c fun p => g p + h p := rfl
  unfold Dg.b_P_put
  simp [zip_F, hlen]
  rw [hc]
  simp only [bnd_ok, e1, tupI, lft_some]
  rw [hs]
  simp
theorem evPut {c : Int} {ls : List Lk} (k : Y c ls) {g h : Int → Int} (hg : NN c g) (hh : NN c h) : Dg.P_put [encY c ls, encF c g, encF c h] = some (.ok (encF c (S c ls fun p => g p + h p))) := by
  obtain ⟨u, hu, e⟩ := ev_put k hg hh
  rw [e, encF_congr (S_eq k (hg.add hh) hu)]
end Pe

set_option maxHeartbeats 4400000
namespace Pe
open Dn
open PySem (PyData)
/-! ### lasting rests -/
/-- the sum over the places that Q takes -/
def sQ (c : Int) (ls : List Lk) (Q : Int → Bool) (p : Int) : Int := ((nums c).map fun o => if Q o = true then btw ls p o else 0).sum
theorem sQ_filter (c : Int) (ls : List Lk) (Q : Int → Bool) (p : Int) : (((nums c).filter Q).map fun o => btw ls p o).sum = sQ c ls Q p := by
  unfold sQ
  induction nums c with
  | nil => rfl
  | cons x xs ih =>
    cases h : Q x with
    | true => rw [List.filter_cons_of_pos h, List.map_cons, List.map_cons, List.sum_cons, List.sum_cons, ih, if_pos h]
    | false => rw [List.filter_cons_of_neg (by rw [h]; exact Bool.false_ne_true), List.map_cons, List.sum_cons, ih, if_neg (by rw [h]; exact Bool.false_ne_true)]; omega
theorem sQ_mono {c : Int} {ls : List Lk} (k : G c ls) {Q R : Int → Bool} (h : ∀ o ∈ nums c, Q o = true → R o = true) (p : Int) : sQ c ls Q p ≤ sQ c ls R p := by
  refine su_le _ _ _ fun o ho => ?_
  have hb := btw_bound k.m1 p o
  by_cases a : Q o = true
  · rw [if_pos a, if_pos (h o ho a)]
    exact Int.le_refl _
  · rw [if_neg a]
    split <;> omega
/-- none of these burns while they all stand -/
def Stuck (c : Int) (ls : List Lk) (g : Int → Int) (Q : Int → Bool) : Prop := (∃ p ∈ nums c, Q p = true) ∧ ∀ p ∈ nums c, Q p = true → g p < sQ c ls Q p
/-- lasting: at rest, and all burn -/
structure Rec (c : Int) (ls : List Lk) (g : Int → Int) : Prop where
  nn : NN c g
  rs : ∀ p ∈ nums c, g p < sz ls p
  bn : ∀ Q, ¬ Stuck c ls g Q
theorem btw_self0 : ∀ {ls : List Lk}, (∀ l ∈ ls, l.1 < l.2.1) → ∀ p, btw ls p p = 0
  | [], _, _ => rfl
  | l :: r, h, p => by
    rw [btw_cons, if_neg, btw_self0 fun m hm => h m (List.mem_cons_of_mem _ hm)]
    have := h l List.mem_cons_self
    omega
/-- settled from what has at least its size everywhere: lasting -/
theorem rec_of {c : Int} {ls : List Lk} (z : Z c ls) {h : Int → Int} (hh : ∀ p ∈ nums c, sz ls p ≤ h p) : Rec c ls (S c ls h) := by
  have y := z.toY
  have hself := btw_self0 fun l hl => (z.rng l hl).2.1
  have hn : NN c h := fun p hp => by
    have := y.s1 p hp
    have := hh p hp
    omega
  have o := od_spec y hn
  refine ⟨o.nn, o.st.2, fun Q hQ => ?_⟩
  obtain ⟨⟨q0, hq0, hQ0⟩, hs⟩ := hQ
  have h1 : ∀ p ∈ nums c, 1 ≤ od c ls h p := fun p hp => by
    have a := o.st.2 p hp
    have b := o.st.1 p hp
    rw [fo_eq] at a
    have i := inc_nonneg y.toG p o.st.1
    have z := hh p hp
    by_cases e : od c ls h p = 0
    · rw [e, Int.zero_mul] at a
      omega
    · omega
  have hst : Stab c ls h fun p => od c ls h p - if Q p = true then 1 else 0 := by
    refine ⟨fun p hp => ?_, fun p hp => ?_⟩
    · have := h1 p hp
      show 0 ≤ od c ls h p - if Q p = true then 1 else 0
      split <;> omega
    · have e : fo c ls h (fun p => od c ls h p - if Q p = true then 1 else 0) p = S c ls h p + (if Q p = true then 1 else 0) * sz ls p - inc c ls (fun p => if Q p = true then 1 else 0) p := by
        unfold S
        rw [fo_eq, fo_eq]
        have i1 : inc c ls (fun p => od c ls h p - if Q p = true then 1 else 0) p + inc c ls (fun p => if Q p = true then 1 else 0) p = inc c ls (od c ls h) p := by
          rw [← inc_add]
          exact inc_congr fun o _ => by omega
        have i2 : (od c ls h p - if Q p = true then 1 else 0) * sz ls p = od c ls h p * sz ls p - (if Q p = true then 1 else 0) * sz ls p := Int.sub_mul _ _ _
        omega
      rw [e]
      have i3 : ∀ (hq : Q p = true), inc c ls (fun p => if Q p = true then 1 else 0) p + btw ls p p = sQ c ls Q p := fun hq => by
        unfold inc sumN sQ
        have : ((nums c).map fun o => if Q o = true then btw ls p o else 0) = (nums c).map fun o => (if o = p then 0 else (if Q o = true then 1 else 0) * btw ls p o) + (if o = p then btw ls p p else 0) := List.map_congr_left fun o _ => by
          by_cases e : o = p
          · subst e
            rw [if_pos hq, if_pos rfl, if_pos rfl]
            omega
          · rw [if_neg e, if_neg e]
            split <;> omega
        rw [this, su_add, ind_eq _ (nums_nodup c), if_pos hp]
      have ip := inc_nonneg y.toG p (t := fun p => if Q p = true then 1 else 0) fun o _ => by
        show (0 : Int) ≤ if Q o = true then 1 else 0
        split <;> omega
      have a := o.st.2 p hp
      have a' : S c ls h p < sz ls p := a
      by_cases hq : Q p = true
      · have := hs p hp hq
        have i := i3 hq
        have hb := btw_bound y.m1 p p
        have hz := hself p
        rw [if_pos hq, Int.one_mul]
        omega
      · rw [if_neg hq, Int.zero_mul]
        omega
  have := o.le _ hst q0 hq0
  simp only [if_pos hQ0] at this
  omega
/-- two lasting rests that forced tumbles lead from one to the other: the times are not above 0 .. -/
theorem rec_le {c : Int} {ls : List Lk} (z : Z c ls) {g g' t : Int → Int} (a : ∀ p ∈ nums c, g p < sz ls p) (b : ∀ Q, ¬ Stuck c ls g' Q) (h : EqP c g' (fo c ls g t)) : ∀ p ∈ nums c, t p ≤ 0 := fun p0 hp0 => by
  have hself := btw_self0 fun l hl => (z.rng l hl).2.1
  -- the greatest time
  obtain ⟨q, hq, hmax⟩ : ∃ q ∈ nums c, ∀ p ∈ nums c, t p ≤ t q := by
    have : ∀ xs : List Int, xs ≠ [] → ∃ q ∈ xs, ∀ p ∈ xs, t p ≤ t q := fun xs => by
      induction xs with
      | nil => intro h; exact absurd rfl h
      | cons x xs ih =>
        intro _
        by_cases e : xs = []
        · subst e
          exact ⟨x, List.mem_cons_self, fun p hp => by
            rw [List.mem_singleton.mp hp]
            exact Int.le_refl _⟩
        · obtain ⟨q, hq, hm⟩ := ih e
          by_cases k : t q ≤ t x
          · exact ⟨x, List.mem_cons_self, fun p hp => by
              rcases List.mem_cons.mp hp with rfl | hp
              · exact Int.le_refl _
              · exact Int.le_trans (hm p hp) k⟩
          · exact ⟨q, List.mem_cons_of_mem _ hq, fun p hp => by
              rcases List.mem_cons.mp hp with rfl | hp
              · omega
              · exact hm p hp⟩
    exact this _ (List.ne_nil_of_mem hp0)
  by_cases hm : t q ≤ 0
  · exact Int.le_trans (hmax p0 hp0) hm
  exfalso
  generalize hmm : t q = m at hm hmax
  refine b (fun p => decide (t p = m)) ⟨⟨q, hq, decide_eq_true hmm⟩, fun p hp hQ => ?_⟩
  have ht : t p = m := of_decide_eq_true hQ
  rw [h p hp, fo_eq, ht]
  have h0 := a p hp
  -- sz p is at least all that leads to places
  have hall : sQ c ls (fun _ => true) p ≤ sz ls p := by
    have e3 := su_Lbt c p ls z.rng
    have h1 := z.c1
    have hs : nums (c + 1) = 1 :: (nums c).map (· + 1) := by
      unfold nums
      rw [show (c + 1).toNat = c.toNat + 1 by omega, List.range_succ_eq_map, List.map_cons, List.map_map, List.map_map]
      congr 1
      first
      | done
      | (refine List.map_congr_left fun i _ => ?_
         show (1 : Int) + ((i + 1 : Nat) : Int) = 1 + (i : Int) + 1
         omega)
    rw [hs, List.map_cons, List.sum_cons, List.map_map] at e3
    have e4 : ((nums c).map ((fun q => Lbt ls p (q - 1)) ∘ (· + 1))) = (nums c).map fun o => if (fun _ => true) o = true then btw ls p o else 0 := List.map_congr_left fun q _ => by
      show Lbt ls p (q + 1 - 1) = if true = true then btw ls p q else 0
      rw [if_pos rfl, Int.add_sub_cancel, Lbt_eq p q ls (fun l hl => (z.rng l hl).2.1) z.dis]
    rw [e4] at e3
    have e5 : 0 ≤ Lbt ls p (1 - 1) := by
      rw [Lbt_eq p _ ls (fun l hl => (z.rng l hl).2.1) z.dis]
      exact (btw_bound z.m1 p _).1
    unfold sQ
    omega
  -- what comes in is at most m times all of it, less once what the others lead
  have hin : inc c ls t p ≤ (m - 1) * sQ c ls (fun _ => true) p + sQ c ls (fun p => decide (t p = m)) p := by
    unfold inc sumN sQ
    rw [← su_mul, ← su_add]
    refine su_le _ _ _ fun o ho => ?_
    have hb := btw_bound z.m1 p o
    rw [if_pos rfl]
    by_cases e : o = p
    · subst e
      rw [if_pos rfl, hself o, Int.mul_zero]
      split <;> omega
    · rw [if_neg e]
      by_cases k : t o = m
      · rw [if_pos (decide_eq_true k), k, Int.sub_mul]
        omega
      · rw [if_neg (by simp [k])]
        have h2 : t o ≤ m - 1 := by
          have := hmax o ho
          omega
        have := Int.mul_le_mul_of_nonneg_right h2 hb.1
        omega
  have hmul : (m - 1) * sQ c ls (fun _ => true) p ≤ (m - 1) * sz ls p := Int.mul_le_mul_of_nonneg_left hall (by omega)
  have e6 : (m - 1) * sz ls p = m * sz ls p - sz ls p := by rw [Int.sub_mul, Int.one_mul]
  omega
/-- .. nor below: they are one -/
theorem rec_uniq {c : Int} {ls : List Lk} (z : Z c ls) {g g' t : Int → Int} (a : Rec c ls g) (b : Rec c ls g') (h : EqP c g' (fo c ls g t)) : EqP c g g' := by
  have h1 := rec_le z a.rs b.bn h
  have h2 := rec_le z (t := fun p => - t p) b.rs a.bn (fun p hp => by
    have e : fo c ls (fo c ls g t) (fun p => - t p) p = g p := by
      rw [← fo_add, fo_congr (u := fun _ => 0) hp rfl fun o _ => by omega]
      exact fo_zero c ls g p
    rw [← e]
    exact (fo_congr hp (h p hp) fun _ _ => rfl).symm)
  have h3 : ∀ p ∈ nums c, t p = 0 := fun p hp => by
    have := h1 p hp
    have := h2 p hp
    omega
  intro p hp
  rw [h p hp, fo_congr (u := fun _ => 0) hp rfl h3]
  exact (fo_zero c ls g p).symm
end Pe

set_option maxHeartbeats 4400000
namespace Pe
open Dn
open PySem (PyData)
/-! ### home -/
def dbl (ls : List Lk) (p : Int) : Int := 2 * sz ls p
noncomputable def ll (c : Int) (ls : List Lk) (p : Int) : Int := dbl ls p - S c ls (dbl ls) p
theorem dbl_nn {c : Int} {ls : List Lk} (y : Y c ls) : NN c (dbl ls) := fun p hp => by
  have := y.s1 p hp
  unfold dbl
  omega
theorem ll_ge {c : Int} {ls : List Lk} (y : Y c ls) : ∀ p ∈ nums c, sz ls p + 1 ≤ ll c ls p := fun p hp => by
  have h := (od_spec y (dbl_nn y)).st.2 p hp
  have h' : S c ls (dbl ls) p < sz ls p := h
  unfold ll dbl at *
  omega
theorem ev_ll {c : Int} {ls : List Lk} (y : Y c ls) : Dg.P_least_loss [encY c ls] = some (.ok (encF c (ll c ls))) := by
  refine runF_ok rfl ?_
  show Dg.b_P_least_loss [some (.dat (encY c ls)), none, none, none, none, none] = _
  have hlen := nums_small y.toG
  have q1 := compL_all (g := gName 3) (f := e2 mulD (eC (.int 2)) (eVarW 3)) (fun p => PyData.int (sz ls p)) [some (.dat (encY c ls)), none, none, none, none, none] (fun p => .int (dbl ls p)) (nums c) (fun p hp => ⟨[some (.dat (encY c ls)), none, none, some (.dat (.int (sz ls p))), none, none], by simp, by simp [mul_l (a := 2) (b := sz ls p) (by decide), dbl]⟩)
  have q2 := compL_all (g := gTup [4, 5]) (f := e2 subD (eVarW 4) (eVarW 5)) (fun p => PyData.tuple [.int (dbl ls p), .int (S c ls (dbl ls) p)]) [some (.dat (encY c ls)), some (.dat (encF c (dbl ls))), some (.dat (encF c (S c ls (dbl ls)))), none, none, none] (fun p => .int (ll c ls p)) (nums c) (fun p hp => ⟨[some (.dat (encY c ls)), some (.dat (encF c (dbl ls))), some (.dat (encF c (S c ls (dbl ls)))), none, some (.dat (.int (dbl ls p))), some (.dat (.int (S c ls (dbl ls) p)))], by simp, by simp [ll]⟩)
  have e0 : iSeq (eCall Dg.P_sizes (aCons (eVar 0) aNil)) [some (.dat (encY c ls)), none, none, none, none, none] = some (.ok ((nums c).map fun p => .int (sz ls p))) := by
    simp [ev_sizes y.toG, encG]
  unfold Dg.b_P_least_loss
  rw [seq_nx (ρ' := [some (.dat (encY c ls)), some (.dat (encF c (dbl ls))), none, none, none, none]) (by
    simp only [ev_sAsg, ev_e1, ev_comp]
    rw [e0]
    simp only [bnd_ok, List.length_map, if_pos hlen, ev_wipe0, ev_wipe1, List.set_cons_succ, List.set_cons_zero]
    rw [q1]
    simp only [bnd_ok, ev_ret]
    rw [show PyData.list ((nums c).map fun p => PyData.int (dbl ls p)) = encI c (dbl ls) from rfl, tupI]
    rfl)]
  rw [seq_nx (ρ' := [some (.dat (encY c ls)), some (.dat (encF c (dbl ls))), some (.dat (encF c (S c ls (dbl ls)))), none, none, none]) (by
    simp [evS y (dbl_nn y)])]
  simp only [ev_sRet, ev_e1, ev_comp, ev_iZip, ev_var, List.getElem?_cons_succ, List.getElem?_cons_zero, ev_ret, bnd_ok, zip_F, lft_some, List.length_map, if_pos hlen, ev_wipe0, ev_wipe1, List.set_cons_succ, List.set_cons_zero]
  rw [q2]
  simp only [bnd_ok, ev_ret]
  rw [show PyData.list ((nums c).map fun p => PyData.int (ll c ls p)) = encI c (ll c ls) from rfl, tupI]
  rfl
theorem ev_home {c : Int} {ls : List Lk} (y : Y c ls) {g : Int → Int} (hg : NN c g) : Dg.P_home [encY c ls, encF c g] = some (.ok (encF c (S c ls fun p => g p + ll c ls p))) := by
  refine runF_ok rfl ?_
  show Dg.b_P_home [some (.dat (encY c ls)), some (.dat (encF c g))] = _
  have hn : NN c (ll c ls) := fun p hp => by
    have := ll_ge y p hp
    have := y.s1 p hp
    omega
  unfold Dg.b_P_home
  simp [ev_ll y, evPut y hg hn]
/-- home is lasting -/
theorem home_rec {c : Int} {ls : List Lk} (z : Z c ls) {g : Int → Int} (hg : NN c g) : Rec c ls (S c ls fun p => g p + ll c ls p) := rec_of z fun p hp => by
  have := ll_ge z.toY p hp
  have := hg p hp
  show sz ls p ≤ g p + ll c ls p
  omega
end Pe

set_option maxHeartbeats 4400000
namespace Pe
open Dn
open PySem (PyData)
/-- what forced tumbles lead to has the same home -/
theorem home_eq {c : Int} {ls : List Lk} (z : Z c ls) {g g' t : Int → Int} (hg : NN c g) (hg' : NN c g') (h : EqP c g' (fo c ls g t)) : EqP c (S c ls fun p => g p + ll c ls p) (S c ls fun p => g' p + ll c ls p) := by
  refine rec_uniq z (t := fun p => t p + od c ls (fun p => g' p + ll c ls p) p - od c ls (fun p => g p + ll c ls p) p) (home_rec z hg) (home_rec z hg') fun p hp => ?_
  show fo c ls (fun p => g' p + ll c ls p) (od c ls fun p => g' p + ll c ls p) p = fo c ls (fo c ls (fun p => g p + ll c ls p) (od c ls fun p => g p + ll c ls p)) _ p
  rw [← fo_add]
  have e1 : fo c ls (fun p => g' p + ll c ls p) (od c ls fun p => g' p + ll c ls p) p = fo c ls (fo c ls (fun p => g p + ll c ls p) t) (od c ls fun p => g' p + ll c ls p) p := by
    refine fo_congr hp ?_ fun _ _ => rfl
    rw [fo_plus]
    show g' p + ll c ls p = _
    rw [h p hp]
  rw [e1, ← fo_add]
  refine fo_congr hp rfl fun o _ => ?_
  omega
end Pe

set_option maxHeartbeats 4400000
namespace Pe
open Dn
open PySem (PyData)
/-! ### alike: forced tumbles lead from one to the other -/
def Alk (c : Int) (ls : List Lk) (g g' : Int → Int) : Prop := ∃ t, EqP c g' (fo c ls g t)
theorem Alk.rfl {c : Int} {ls : List Lk} {g : Int → Int} : Alk c ls g g := ⟨fun _ => 0, fun p _ => (fo_zero c ls g p).symm⟩
theorem Alk.of_eq {c : Int} {ls : List Lk} {g h : Int → Int} (e : EqP c g h) : Alk c ls g h := ⟨fun _ => 0, fun p hp => by rw [fo_zero]; exact (e p hp).symm⟩
theorem inc_zero (c : Int) (ls : List Lk) (p : Int) : inc c ls (fun _ => 0) p = 0 := by
  have h := inc_mul c ls 0 (fun _ => 0) p
  simp only [Int.zero_mul] at h
  exact h
/-- what forced tumbles take away -/
def La (c : Int) (ls : List Lk) (t : Int → Int) (p : Int) : Int := t p * sz ls p - inc c ls t p
theorem fo_La (c : Int) (ls : List Lk) (g t : Int → Int) (p : Int) : fo c ls g t p = g p - La c ls t p := by
  unfold La
  rw [fo_eq]
  omega
theorem La_add (c : Int) (ls : List Lk) (t u : Int → Int) (p : Int) : La c ls (fun o => t o + u o) p = La c ls t p + La c ls u p := by
  unfold La
  rw [inc_add, Int.add_mul]
  omega
theorem La_mul (c : Int) (ls : List Lk) (k : Int) (t : Int → Int) (p : Int) : La c ls (fun o => k * t o) p = k * La c ls t p := by
  unfold La
  rw [inc_mul, Int.mul_assoc, Int.mul_sub]
theorem La_neg (c : Int) (ls : List Lk) (t : Int → Int) (p : Int) : La c ls (fun o => - t o) p = - La c ls t p := by
  have h := La_mul c ls (-1) t p
  have e : (fun o => -1 * t o) = fun o => - t o := funext fun o => by omega
  rw [e] at h
  omega
theorem La_congr {c : Int} {ls : List Lk} {t u : Int → Int} {p : Int} (hp : p ∈ nums c) (h : ∀ o ∈ nums c, t o = u o) : La c ls t p = La c ls u p := by
  unfold La
  rw [h p hp, inc_congr h]
theorem alk_iff {c : Int} {ls : List Lk} {g g' : Int → Int} : Alk c ls g g' ↔ ∃ t, ∀ p ∈ nums c, g' p = g p - La c ls t p :=
  ⟨fun ⟨t, h⟩ => ⟨t, fun p hp => by rw [h p hp, fo_La]⟩, fun ⟨t, h⟩ => ⟨t, fun p hp => by rw [h p hp, fo_La]⟩⟩
theorem Alk.symm {c : Int} {ls : List Lk} {g h : Int → Int} (a : Alk c ls g h) : Alk c ls h g := by
  obtain ⟨t, e⟩ := alk_iff.mp a
  refine alk_iff.mpr ⟨fun o => - t o, fun p hp => ?_⟩
  rw [La_neg, e p hp]
  omega
theorem Alk.trans {c : Int} {ls : List Lk} {g h k : Int → Int} (a : Alk c ls g h) (b : Alk c ls h k) : Alk c ls g k := by
  obtain ⟨t, e⟩ := alk_iff.mp a
  obtain ⟨u, f⟩ := alk_iff.mp b
  refine alk_iff.mpr ⟨fun o => t o + u o, fun p hp => ?_⟩
  rw [La_add, f p hp, e p hp]
  omega
theorem Alk.add {c : Int} {ls : List Lk} {g h g' h' : Int → Int} (a : Alk c ls g g') (b : Alk c ls h h') : Alk c ls (fun p => g p + h p) fun p => g' p + h' p := by
  obtain ⟨t, e⟩ := alk_iff.mp a
  obtain ⟨u, f⟩ := alk_iff.mp b
  refine alk_iff.mpr ⟨fun o => t o + u o, fun p hp => ?_⟩
  show g' p + h' p = g p + h p - _
  rw [La_add, f p hp, e p hp]
  omega
theorem Alk.sub {c : Int} {ls : List Lk} {g h g' h' : Int → Int} (a : Alk c ls g g') (b : Alk c ls h h') : Alk c ls (fun p => g p - h p) fun p => g' p - h' p := by
  obtain ⟨t, e⟩ := alk_iff.mp a
  obtain ⟨u, f⟩ := alk_iff.mp b
  refine alk_iff.mpr ⟨fun o => t o + - u o, fun p hp => ?_⟩
  show g' p - h' p = g p - h p - _
  rw [La_add, La_neg, f p hp, e p hp]
  omega
theorem Alk.mul {c : Int} {ls : List Lk} {g g' : Int → Int} (k : Int) (a : Alk c ls g g') : Alk c ls (fun p => k * g p) fun p => k * g' p := by
  obtain ⟨t, e⟩ := alk_iff.mp a
  refine alk_iff.mpr ⟨fun o => k * t o, fun p hp => ?_⟩
  show k * g' p = k * g p - _
  rw [La_mul, e p hp, Int.mul_sub]
theorem alk_S (c : Int) (ls : List Lk) (g : Int → Int) : Alk c ls g (S c ls g) := ⟨od c ls g, fun _ _ => _root_.rfl⟩
theorem alk_ll (c : Int) (ls : List Lk) : Alk c ls (fun _ => 0) (ll c ls) := by
  have h := (Alk.rfl (c := c) (ls := ls) (g := dbl ls)).sub (alk_S c ls (dbl ls))
  have e : (fun p => dbl ls p - dbl ls p) = fun _ => (0 : Int) := funext fun p => Int.sub_self _
  rw [e] at h
  exact h
/-- the home -/
noncomputable def hm (c : Int) (ls : List Lk) (g : Int → Int) : Int → Int := S c ls fun p => g p + ll c ls p
theorem ev_hm {c : Int} {ls : List Lk} (y : Y c ls) {g : Int → Int} (hg : NN c g) : Dg.P_home [encY c ls, encF c g] = some (.ok (encF c (hm c ls g))) := ev_home y hg
theorem hm_rec {c : Int} {ls : List Lk} (z : Z c ls) {g : Int → Int} (hg : NN c g) : Rec c ls (hm c ls g) := home_rec z hg
theorem hm_alk (c : Int) (ls : List Lk) (g : Int → Int) : Alk c ls g (hm c ls g) := by
  have h := (Alk.rfl (c := c) (ls := ls) (g := g)).add (alk_ll c ls)
  have e : (fun p => g p + 0) = g := funext fun p => Int.add_zero _
  rw [e] at h
  exact h.trans (alk_S c ls _)
theorem Rec.uniq {c : Int} {ls : List Lk} (z : Z c ls) {g g' : Int → Int} (a : Rec c ls g) (b : Rec c ls g') (h : Alk c ls g g') : EqP c g g' := by
  obtain ⟨t, e⟩ := h
  exact rec_uniq z a b e
theorem hm_eq {c : Int} {ls : List Lk} (z : Z c ls) {g g' : Int → Int} (hg : NN c g) (hg' : NN c g') (h : Alk c ls g g') : EqP c (hm c ls g) (hm c ls g') :=
  (hm_rec z hg).uniq z (hm_rec z hg') (((hm_alk c ls g).symm.trans h).trans (hm_alk c ls g'))
theorem hm_iff {c : Int} {ls : List Lk} (z : Z c ls) {g g' : Int → Int} (hg : NN c g) (hg' : NN c g') : EqP c (hm c ls g) (hm c ls g') ↔ Alk c ls g g' :=
  ⟨fun h => ((hm_alk c ls g).trans (Alk.of_eq h)).trans (hm_alk c ls g').symm, hm_eq z hg hg'⟩
theorem hm_self {c : Int} {ls : List Lk} (z : Z c ls) {g : Int → Int} (r : Rec c ls g) : EqP c (hm c ls g) g := (hm_rec z r.nn).uniq z r (hm_alk c ls g).symm
theorem Rec.congr {c : Int} {ls : List Lk} {g g' : Int → Int} (r : Rec c ls g) (h : EqP c g g') : Rec c ls g' := ⟨fun p hp => by rw [← h p hp]; exact r.nn p hp, fun p hp => by rw [← h p hp]; exact r.rs p hp, fun Q ⟨a, b⟩ => r.bn Q ⟨a, fun p hp q => by rw [h p hp]; exact b p hp q⟩⟩
/-! ### rules -/
theorem comp_of {α : Type} {it : AF} {g : GF} {f : EF} {vs : List Nat} {ρ : Dn.Env} (enc : α → D) (xs : List α) (e : α → D) (hi : it ρ = some (.ok (xs.map enc))) (hl : xs.length ≤ 1000000) (h : ∀ x ∈ xs, ∃ ρ1, g (enc x) (wipe ρ vs) = some ρ1 ∧ f ρ1 = some (.ok (e x))) : eComp it g tYesF f vs ρ = some (.ok (.list (xs.map e))) := by
  rw [ev_comp, hi, bnd_ok, List.length_map, if_pos hl, compL_all enc (wipe ρ vs) e xs h]
  rfl
theorem comp_if {α : Type} {it : AF} {g : GF} {t : TF} {f : EF} {vs : List Nat} {ρ : Dn.Env} (enc : α → D) (xs : List α) (P : α → Bool) (e : α → D) (hi : it ρ = some (.ok (xs.map enc))) (hl : xs.length ≤ 1000000) (h : ∀ x ∈ xs, ∃ ρ1, g (enc x) (wipe ρ vs) = some ρ1 ∧ t ρ1 = some (.ok (P x)) ∧ (P x = true → f ρ1 = some (.ok (e x)))) : eComp it g t f vs ρ = some (.ok (.list ((xs.filter P).map e))) := by
  rw [ev_comp, hi, bnd_ok, List.length_map, if_pos hl, compL_map enc (wipe ρ vs) P e xs h]
  rfl
theorem encI_mk (c : Int) (f : Int → Int) : PyData.list ((nums c).map fun p => PyData.int (f p)) = encI c f := rfl
theorem eqvG_iff : ∀ {g h : List Int}, g.length = h.length → (PyData.eqvAll (g.map .int) (h.map .int) = true ↔ g = h)
  | [], [], _ => by simp [PyData.eqvAll]
  | a :: g, [], e => by simp at e
  | [], a :: g, e => by simp at e
  | a :: g, b :: h, e => by
    have ih := eqvG_iff (g := g) (h := h) (by simpa using e)
    rw [List.map_cons, List.map_cons]
    simp [PyData.eqvAll, PyData.eqv, ih]
theorem eqF_dec (c : Int) (f h : Int → Int) : eqD (encF c f) (encF c h) = some (.bool (decide (∀ p ∈ nums c, f p = h p))) := by
  have e : (PyData.eqvAll (((nums c).map f).map PyData.int) (((nums c).map h).map PyData.int) = true ↔ ∀ p ∈ nums c, f p = h p) := by
    rw [eqvG_iff (by rw [List.length_map, List.length_map])]
    exact ⟨fun k p hp => List.map_inj_left.mp k p hp, fun k => List.map_congr_left k⟩
  unfold eqD
  rw [okF, okF]
  show some (PyData.bool (PyData.eqv (encF c f) (encF c h))) = _
  congr 2
  have e2 : PyData.eqv (encF c f) (encF c h) = PyData.eqvAll (((nums c).map f).map PyData.int) (((nums c).map h).map PyData.int) := by
    unfold encF encG
    simp [-List.map_map, PyData.eqv]
  rw [e2, Bool.eq_iff_iff, e, decide_eq_true_eq]
theorem neF_dec (c : Int) (f h : Int → Int) : neD (encF c f) (encF c h) = some (.bool (!decide (∀ p ∈ nums c, f p = h p))) := by
  have k := eqF_dec c f h
  unfold eqD at k
  unfold neD
  split at k
  · rename_i q
    rw [if_pos q]
    injection k with k
    injection k with k
    rw [k]
  · cases k
end Pe

set_option maxHeartbeats 4400000
namespace Pe
open Dn
open PySem (PyData)
noncomputable def mx (ns : List Int) (k : Nat) : Int := (ev_mixed ns k).choose
theorem ev_mx (ns : List Int) (k : Nat) : Dg.L_mixed [.list (ns.map .int), .int k] = some (.ok (.int (mx ns k))) := (ev_mixed ns k).choose_spec.1
theorem encF_LI (c : Int) (f : Int → Int) : encF c f = .tuple (LI c f) := by
  unfold encF encG LI
  rw [List.map_map]
  rfl
/-- one number of a row put anew -/
theorem put_at {c p : Int} (hc : c ≤ 100) (f : Int → Int) (v : Int) (h : p ∈ nums c) : ∃ a b, cutD none (some (p - 1)) (encF c f) = some (.tuple a) ∧ cutD (some p) none (encF c f) = some (.tuple b) ∧ addD (.tuple a) (.tuple [.int v]) = some (.tuple (a ++ [.int v])) ∧ addD (.tuple (a ++ [.int v])) (.tuple b) = some (encF c fun q => if q = p then v else f q) := by
  have hb := mem_nums.mp h
  have e1 : p - 1 = ((px p : Nat) : Int) := by
    unfold px
    omega
  have e2 : p = ((px p + 1 : Nat) : Int) := by
    unfold px
    omega
  have hl : (LI c f).length = c.toNat := by
    unfold LI
    rw [List.length_map, nums_len]
  have h1 : px p ≤ (LI c f).length := by
    unfold px
    omega
  have h2 : px p + 1 ≤ (LI c f).length := by
    unfold px
    omega
  have sl : (1000 : Nat) ≤ PySem.sizeLine := by decide
  refine ⟨(LI c f).take (px p), (LI c f).drop (px p + 1), ?_, ?_, ?_, ?_⟩
  · rw [encF_LI, e1]
    show some (PyData.tuple (cutL (LI c f) none (some ((px p : Nat) : Int)))) = _
    rw [cut_lo _ h1]
  · rw [encF_LI]
    show some (PyData.tuple (cutL (LI c f) (some p) none)) = _
    have : cutL (LI c f) (some p) none = cutL (LI c f) (some ((px p + 1 : Nat) : Int)) none := by rw [← e2]
    rw [this, cut_hi _ h2]
  · show (if ((LI c f).take (px p)).length + 1 ≤ PySem.sizeLine then _ else none) = _
    rw [if_pos (by rw [List.length_take]; omega)]
  · show (if ((LI c f).take (px p) ++ [PyData.int v]).length + ((LI c f).drop (px p + 1)).length ≤ PySem.sizeLine then _ else none) = _
    rw [if_pos (by rw [List.length_append, List.length_take, List.length_drop, List.length_singleton]; omega), encF_LI, ← LI_set f v h, List.set_eq_take_append_cons_drop, if_pos (by omega), List.append_assoc]
    rfl
theorem enum_map (f : Int → D) : ∀ (k : Nat) (xs : List Int) (h : ∀ (i : Nat) (x : Int), xs[i]? = some x → x = (k : Int) + i + 1), enumL k (xs.map f) = xs.map fun p => .tuple [.int (p - 1), f p]
  | _, [], _ => rfl
  | k, x :: xs, h => by
    have h0 := h 0 x rfl
    have ih := enum_map f (k + 1) xs fun i y hy => by
      have := h (i + 1) y hy
      omega
    rw [List.map_cons, List.map_cons]
    show PyData.tuple [.int k, f x] :: enumL (k + 1) (xs.map f) = _
    rw [ih]
    have : (k : Int) = x - 1 := by omega
    rw [this]
theorem enumI (c : Int) (f : Int → Int) : enumAD (encI c f) = some ((nums c).map fun p => .tuple [.int (p - 1), .int (f p)]) := by
  show some (enumL 0 _) = _
  rw [enum_map]
  intro i x hx
  have hl := (List.getElem?_eq_some_iff.mp hx).1
  rw [nums_len] at hl
  unfold nums at hx
  rw [List.getElem?_map, List.getElem?_range hl] at hx
  have h3 : (1 : Int) + (i : Int) = x := Option.some.inj hx
  omega
theorem encI_ix {c p : Int} (f : Int → Int) (h : p ∈ nums c) : ixD (encI c f) (.int (p - 1)) = some (.int (f p)) := LI_ix f h
theorem seq_exc {a b : SF} {ρ : Dn.Env} {c : PySem.Str} (h : a ρ = some (.exc c)) : sSeq a b ρ = some (.exc c) := by
  rw [ev_sSeq, h]
theorem seq_rt {a b : SF} {ρ : Dn.Env} {d : D} (h : a ρ = some (.rt d)) : sSeq a b ρ = some (.rt d) := by
  rw [ev_sSeq, h]
end Pe

set_option maxHeartbeats 4400000
namespace Pe
/-! ### determinants, along the first row -/
def ex (m : Int → Int) : (List Int → Int) → List Int → Int
  | _, [] => 0
  | F, x :: C => m x * F C - ex m (fun l => F (x :: l)) C
def Dt (M : Int → Int → Int) : List Int → List Int → Int
  | [], [] => 1
  | [], _ :: _ => 0
  | r :: R, C => ex (M r) (Dt M R) C
theorem ex_lin (m : Int → Int) (a b : Int) : ∀ (C : List Int) (F G : List Int → Int), ex m (fun l => a * F l + b * G l) C = a * ex m F C + b * ex m G C
  | [], _, _ => by simp [ex]
  | x :: C, F, G => by
    have ih := ex_lin m a b C (fun l => F (x :: l)) (fun l => G (x :: l))
    simp only [ex]
    rw [ih]
    grind
theorem ex_congr {m n : Int → Int} : ∀ {C : List Int} {F G : List Int → Int}, (∀ x ∈ C, m x = n x) → (∀ l, (∀ x ∈ l, x ∈ C) → F l = G l) → ex m F C = ex n G C
  | [], _, _, _, _ => rfl
  | x :: C, F, G, h, k => by
    simp only [ex]
    rw [h x List.mem_cons_self, k C fun y hy => List.mem_cons_of_mem _ hy, ex_congr (fun y hy => h y (List.mem_cons_of_mem _ hy)) (F := fun l => F (x :: l)) (G := fun l => G (x :: l)) fun l hl => k (x :: l) fun y hy => by
      rcases List.mem_cons.mp hy with rfl | hy
      · exact List.mem_cons_self
      · exact List.mem_cons_of_mem _ (hl y hy)]
/-- rows: an exchange turns the sign -/
theorem ex_swap (m n : Int → Int) : ∀ (C : List Int) (F : List Int → Int), ex m (ex n F) C = - ex n (ex m F) C
  | [], _ => rfl
  | x :: C, F => by
    have ih := ex_swap m n C fun l => F (x :: l)
    have e1 : ∀ m n : Int → Int, ex m (fun l => ex n F (x :: l)) C = n x * ex m F C - ex m (ex n fun l => F (x :: l)) C := fun m n => by
      have := ex_lin m (n x) (-1) C F (ex n fun l => F (x :: l))
      rw [show (fun l => ex n F (x :: l)) = fun l => n x * F l + -1 * ex n (fun l => F (x :: l)) l from funext fun l => by simp only [ex]; omega, this]
      omega
    have d : ∀ m n : Int → Int, ex m (ex n F) (x :: C) = m x * ex n F C - ex m (fun l => ex n F (x :: l)) C := fun _ _ => rfl
    rw [d, d, e1, e1, ih]
    omega
def Alt (F : List Int → Int) : Prop := ∀ pre a b post, F (pre ++ a :: b :: post) = - F (pre ++ b :: a :: post)
theorem Alt.cons {F : List Int → Int} (h : Alt F) (x : Int) : Alt fun l => F (x :: l) := fun pre a b post => h (x :: pre) a b post
theorem alt_ex (m : Int → Int) {F : List Int → Int} (h : Alt F) : Alt (ex m F) := fun pre => by
  induction pre generalizing F with
  | nil =>
    intro a b post
    simp only [List.nil_append, ex]
    have e : ex m (fun l => F (a :: b :: l)) post = - ex m (fun l => F (b :: a :: l)) post := by
      have := ex_lin m (-1) 0 post (fun l => F (b :: a :: l)) (fun _ => 0)
      rw [show (fun l => F (a :: b :: l)) = fun l => -1 * F (b :: a :: l) + 0 * 0 from funext fun l => by have := h [] a b l; simp only [List.nil_append] at this; omega, this]
      omega
    rw [e]
    omega
  | cons x pre ih =>
    intro a b post
    simp only [List.cons_append, ex]
    rw [ih (h.cons x) a b post, h pre a b post]
    grind
theorem alt_D (M : Int → Int → Int) : ∀ R, Alt (Dt M R)
  | [] => fun pre a b post => by cases pre <;> rfl
  | r :: R => alt_ex _ (alt_D M R)
theorem Alt.two {F : List Int → Int} (h : Alt F) (a : Int) : ∀ (pre post : List Int), F (a :: (pre ++ a :: post)) = 0
  | [], post => by
    have := h [] a a post
    simp only [List.nil_append] at this ⊢
    omega
  | x :: pre, post => by
    have := h [] a x (pre ++ a :: post)
    simp only [List.nil_append] at this
    rw [List.cons_append, this, (h.cons x).two a pre post]
    rfl
theorem Alt.dup {F : List Int → Int} (h : Alt F) (a : Int) : ∀ (p pre post : List Int), F (p ++ a :: (pre ++ a :: post)) = 0
  | [], pre, post => h.two a pre post
  | x :: p, pre, post => (h.cons x).dup a p pre post
theorem swap_D (M : Int → Int → Int) (a b : Int) (post C : List Int) : ∀ pre : List Int, ∀ C, Dt M (pre ++ a :: b :: post) C = - Dt M (pre ++ b :: a :: post) C
  | [], C => ex_swap (M a) (M b) C (Dt M post)
  | x :: pre, C => by
    have e := ex_lin (M x) (-1) 0 C (Dt M (pre ++ b :: a :: post)) (fun _ => 0)
    show ex (M x) (Dt M (pre ++ a :: b :: post)) C = - ex (M x) (Dt M (pre ++ b :: a :: post)) C
    rw [show (Dt M (pre ++ a :: b :: post)) = fun l => -1 * Dt M (pre ++ b :: a :: post) l + 0 * 0 from funext fun l => by rw [swap_D M a b post C pre l]; omega, e]
    omega
/-- a place to the front, in rows and columns -/
theorem front_D (M : Int → Int → Int) (u : Int) : ∀ (n : Nat) (pre post : List Int), pre.length = n → Dt M (pre ++ u :: post) (pre ++ u :: post) = Dt M (u :: (pre ++ post)) (u :: (pre ++ post))
  | 0, pre, post, h => by
    rw [List.length_eq_zero_iff.mp h]
    rfl
  | n + 1, pre, post, h => by
    have hne : pre ≠ [] := fun e => by rw [e] at h; cases h
    obtain ⟨p, x, rfl⟩ : ∃ p x, pre = p ++ [x] := ⟨pre.dropLast, pre.getLast hne, (List.dropLast_concat_getLast hne).symm⟩
    have e : ∀ q : List Int, p ++ [x] ++ q = p ++ x :: q := fun q => by simp
    rw [e, e, swap_D M x u post [] p, alt_D M (p ++ u :: x :: post) p x u post, front_D M u n p (x :: post) (by simp at h; omega)]
    omega
theorem ex_map (s : Int → Int) (m : Int → Int) : ∀ (C : List Int) (F : List Int → Int), ex (fun x => m (s x)) (fun l => F (l.map s)) C = ex m F (C.map s)
  | [], _ => rfl
  | x :: C, F => by
    simp only [List.map_cons, ex]
    rw [ex_map s m C fun l => F (s x :: l)]
theorem D_map (M : Int → Int → Int) (s : Int → Int) : ∀ R C : List Int, Dt (fun r c => M r (s c)) R C = Dt M R (C.map s)
  | [], [] => rfl
  | [], _ :: _ => rfl
  | r :: R, C => by
    show ex (fun x => M r (s x)) (Dt (fun r c => M r (s c)) R) C = ex (M r) (Dt M R) (C.map s)
    rw [← ex_map s (M r) C (Dt M R)]
    congr 1
    exact funext fun l => D_map M s R l
theorem D_congr {M N : Int → Int → Int} : ∀ {R C : List Int}, (∀ r ∈ R, ∀ c ∈ C, M r c = N r c) → Dt M R C = Dt N R C
  | [], [], _ => rfl
  | [], _ :: _, _ => rfl
  | r :: R, C, h => ex_congr (h r List.mem_cons_self) fun l hl => D_congr fun q hq c hc => h q (List.mem_cons_of_mem _ hq) c (hl c hc)
/-! column by column -/
theorem ex_linF {m m1 m2 : Int → Int} {a b : Int} {k : Int} (hm : ∀ x, x ≠ k → m x = m1 x ∧ m x = m2 x) : ∀ {C : List Int} {F F1 F2 : List Int → Int}, C.count k = 0 → (∀ l, l.count k = 0 → F l = a * F1 l + b * F2 l) → ex m F C = a * ex m1 F1 C + b * ex m2 F2 C
  | [], _, _, _, _, _ => by simp [ex]
  | x :: C, F, F1, F2, hk, h => by
    rw [List.count_cons] at hk
    have hx : x ≠ k := fun e => by rw [e] at hk; simp at hk
    have hC : C.count k = 0 := by omega
    have ih := ex_linF hm (a := a) (b := b) hC (F := fun l => F (x :: l)) (F1 := fun l => F1 (x :: l)) (F2 := fun l => F2 (x :: l)) fun l hl => h (x :: l) (by rw [List.count_cons_of_ne hx]; exact hl)
    simp only [ex]
    rw [ih, h C hC, ← (hm x hx).1, ← (hm x hx).2]
    grind
theorem ex_linC {m m1 m2 : Int → Int} {a b : Int} {k : Int} (hm : ∀ x, x ≠ k → m x = m1 x ∧ m x = m2 x) (hk : m k = a * m1 k + b * m2 k) : ∀ {C : List Int} {F F1 F2 : List Int → Int}, C.count k = 1 → (∀ l, l.count k = 0 → F l = F1 l ∧ F l = F2 l) → (∀ l, l.count k = 1 → F l = a * F1 l + b * F2 l) → ex m F C = a * ex m1 F1 C + b * ex m2 F2 C
  | [], _, _, _, h, _, _ => by simp at h
  | x :: C, F, F1, F2, h1, h, h2 => by
    simp only [ex]
    by_cases hx : x = k
    · subst hx
      have hC : C.count x = 0 := by
        rw [List.count_cons_self] at h1
        omega
      rw [ex_linF hm (a := a) (b := b) hC (F := fun l => F (x :: l)) (F1 := fun l => F1 (x :: l)) (F2 := fun l => F2 (x :: l)) fun l hl => h2 (x :: l) (by rw [List.count_cons_self, hl]), hk, ← (h C hC).1, ← (h C hC).2]
      grind
    · have hC : C.count k = 1 := by
        rw [List.count_cons_of_ne hx] at h1
        exact h1
      rw [ex_linC hm hk (F := fun l => F (x :: l)) (F1 := fun l => F1 (x :: l)) (F2 := fun l => F2 (x :: l)) hC (fun l hl => h (x :: l) (by rw [List.count_cons_of_ne hx]; exact hl)) (fun l hl => h2 (x :: l) (by rw [List.count_cons_of_ne hx]; exact hl)), h2 C hC, ← (hm x hx).1, ← (hm x hx).2]
      grind
/-- one column put anew -/
def col (M : Int → Int → Int) (k : Int) (v : Int → Int) (r c : Int) : Int := if c = k then v r else M r c
theorem col_other {M : Int → Int → Int} {k : Int} {v w : Int → Int} {r x : Int} (h : x ≠ k) : col M k v r x = col M k w r x := by
  unfold col
  rw [if_neg h, if_neg h]
theorem D_lin (M : Int → Int → Int) (k : Int) (v w : Int → Int) (a b : Int) : ∀ R : List Int, (∀ C : List Int, C.count k = 0 → Dt (col M k fun r => a * v r + b * w r) R C = Dt (col M k v) R C ∧ Dt (col M k fun r => a * v r + b * w r) R C = Dt (col M k w) R C) ∧ (∀ C : List Int, C.count k = 1 → Dt (col M k fun r => a * v r + b * w r) R C = a * Dt (col M k v) R C + b * Dt (col M k w) R C)
  | [] => ⟨fun C h => by cases C <;> exact ⟨rfl, rfl⟩, fun C h => by
    cases C with
    | nil => simp at h
    | cons x C => simp [Dt]⟩
  | r :: R => by
    obtain ⟨h0, h1⟩ := D_lin M k v w a b R
    refine ⟨fun C hC => ?_, fun C hC => ?_⟩
    · have hk : ∀ x ∈ C, x ≠ k := fun x hx e => by
        rw [e] at hx
        exact absurd hC (by have := List.count_pos_iff.mpr hx; omega)
      have hl : ∀ l : List Int, (∀ x ∈ l, x ∈ C) → l.count k = 0 := fun l hl => List.count_eq_zero.mpr fun e => hk k (hl k e) rfl
      exact ⟨ex_congr (fun x hx => col_other (hk x hx)) fun l hl' => (h0 l (hl l hl')).1, ex_congr (fun x hx => col_other (hk x hx)) fun l hl' => (h0 l (hl l hl')).2⟩
    · refine ex_linC (k := k) (fun x hx => ⟨col_other hx, col_other hx⟩) ?_ hC h0 h1
      unfold col
      rw [if_pos rfl, if_pos rfl, if_pos rfl]
theorem D_zero (M : Int → Int → Int) (k : Int) {R C : List Int} (h : C.count k = 1) : Dt (col M k fun _ => 0) R C = 0 := by
  have := (D_lin M k (fun _ => 0) (fun _ => 0) 0 0 R).2 C h
  simp only [Int.zero_mul, Int.add_zero] at this
  exact this
/-- a column that stands there twice -/
theorem D_two (M : Int → Int → Int) {j k : Int} {R C : List Int} (hn : C.Nodup) (hk : k ∈ C) (hj : j ∈ C) (e : j ≠ k) : Dt (col M k fun r => M r j) R C = 0 := by
  have h1 : col M k (fun r => M r j) = fun r c => M r (if c = k then j else c) := funext fun r => funext fun c => by
    unfold col
    split <;> rfl
  rw [h1, D_map M (fun c => if c = k then j else c) R C]
  have h2 : ∃ p q s, C.map (fun c => if c = k then j else c) = p ++ j :: (q ++ j :: s) := by
    obtain ⟨p, q, rfl⟩ := List.append_of_mem hk
    rw [List.map_append, List.map_cons, if_pos rfl]
    have hpq : ∀ l : List Int, k ∉ l → l.map (fun c => if c = k then j else c) = l := fun l hl => by
      have e2 : l.map (fun c => if c = k then j else c) = l.map id := List.map_congr_left fun x hx => if_neg fun e => hl (by rw [← e]; exact hx)
      rw [e2, List.map_id]
    rw [List.nodup_append] at hn
    obtain ⟨n1, n2, n3⟩ := hn
    rw [hpq p fun h => n3 k h k List.mem_cons_self rfl, hpq q (List.nodup_cons.mp n2).1]
    rcases List.mem_append.mp hj with h | h
    · obtain ⟨a, b, rfl⟩ := List.append_of_mem h
      exact ⟨a, b, q, by simp⟩
    · rcases List.mem_cons.mp h with h | h
      · exact absurd h e
      · obtain ⟨a, b, rfl⟩ := List.append_of_mem h
        exact ⟨p, a, b, by simp⟩
  obtain ⟨p, q, s, h2⟩ := h2
  rw [h2]
  exact (alt_D M R).dup j p q s
theorem count_one {C : List Int} (hn : C.Nodup) {k : Int} (hk : k ∈ C) : C.count k = 1 := by
  have := List.nodup_iff_count.mp hn k
  have := List.count_pos_iff.mpr hk
  omega
/-- Cramer -/
theorem cramer (M : Int → Int → Int) (t : Int → Int) {k : Int} {R C : List Int} (hn : C.Nodup) (hk : k ∈ C) : ∀ X : List Int, X.Nodup → (∀ j ∈ X, j ∈ C) → Dt (col M k fun r => (X.map fun j => t j * M r j).sum) R C = if k ∈ X then t k * Dt M R C else 0
  | [], _, _ => by
    simp only [List.map_nil, List.sum_nil]
    rw [D_zero M k (count_one hn hk)]
    simp
  | j :: X, hX, hs => by
    have hX' := List.nodup_cons.mp hX
    have ih := cramer M t hn hk X hX'.2 (R := R) fun i hi => hs i (List.mem_cons_of_mem _ hi)
    have e : (fun r => ((j :: X).map fun j => t j * M r j).sum) = fun r => t j * M r j + 1 * (X.map fun j => t j * M r j).sum := funext fun r => by
      rw [List.map_cons, List.sum_cons, Int.one_mul]
    rw [e, (D_lin M k (fun r => M r j) (fun r => (X.map fun j => t j * M r j).sum) (t j) 1 R).2 C (count_one hn hk), ih]
    by_cases h : j = k
    · subst h
      rw [if_neg hX'.1, if_pos List.mem_cons_self]
      have e2 : col M j (fun r => M r j) = M := funext fun r => funext fun c => by
        unfold col
        split
        · rename_i h
          rw [h]
        · rfl
      rw [e2]
      omega
    · rw [D_two M hn hk (hs j List.mem_cons_self) h, Int.mul_zero, Int.zero_add, Int.one_mul]
      by_cases hkx : k ∈ X
      · rw [if_pos hkx, if_pos (List.mem_cons_of_mem _ hkx)]
      · rw [if_neg hkx, if_neg fun hh => by
          rcases List.mem_cons.mp hh with hh | hh
          · exact h hh.symm
          · exact hkx hh]
theorem D_scale (M : Int → Int → Int) (k : Int) (v : Int → Int) (a : Int) {R C : List Int} (h : C.count k = 1) : Dt (col M k fun r => a * v r) R C = a * Dt (col M k v) R C := by
  have := (D_lin M k v v a 0 R).2 C h
  simp only [Int.zero_mul, Int.add_zero] at this
  exact this
/-- rows of sum 0 -/
theorem D_sum0 (M : Int → Int → Int) {R C : List Int} (hn : C.Nodup) {k : Int} (hk : k ∈ C) (h : ∀ r ∈ R, (C.map fun j => M r j).sum = 0) : Dt M R C = 0 := by
  have h1 := cramer M (fun _ => 1) hn hk C hn (fun _ h => h) (R := R)
  rw [if_pos hk, Int.one_mul] at h1
  rw [← h1, ← D_zero M k (R := R) (count_one hn hk)]
  refine D_congr fun r hr c hc => ?_
  unfold col
  split
  · simp only [Int.one_mul]
    exact h r hr
  · rfl
/-- one place more at the foremost corner -/
theorem D_corner {M N : Int → Int → Int} {u w : Int} {U : List Int} (h : ∀ r ∈ u :: U, ∀ c ∈ u :: U, ¬ (r = u ∧ c = u) → M r c = N r c) (hu : M u u = N u u + w) (hn : u ∉ U) : Dt M (u :: U) (u :: U) = Dt N (u :: U) (u :: U) + w * Dt N U U := by
  have hU : ∀ C : List Int, (∀ x ∈ C, x ∈ u :: U) → Dt M U C = Dt N U C := fun C hC => D_congr fun r hr c hc => h r (List.mem_cons_of_mem _ hr) c (hC c hc) fun e => hn (by rw [← e.1]; exact hr)
  have e : ∀ K : Int → Int → Int, Dt K (u :: U) (u :: U) = K u u * Dt K U U - ex (K u) (fun l => Dt K U (u :: l)) U := fun K => rfl
  rw [e, e, hu, hU U fun x hx => List.mem_cons_of_mem _ hx]
  have e2 : ex (M u) (fun l => Dt M U (u :: l)) U = ex (N u) (fun l => Dt N U (u :: l)) U := ex_congr (fun x hx => h u List.mem_cons_self x (List.mem_cons_of_mem _ hx) fun e => hn (by rw [← e.2]; exact hx)) fun l hl => hU (u :: l) fun x hx => by
    rcases List.mem_cons.mp hx with rfl | hx
    · exact List.mem_cons_self
    · exact List.mem_cons_of_mem _ (hl x hx)
  rw [e2]
  grind
end Pe

set_option maxHeartbeats 4400000
namespace Pe
open Dn
open PySem (PyData)
/-! ### cutting a link: what it makes of determinants, trees -/
/-- one end of a link is u, the other is none of U -/
def End (e : Lk) (u : Int) (U : List Int) : Prop := (e.1 = u ∧ e.2.1 ∉ U) ∨ (e.2.1 = u ∧ e.1 ∉ U)
def LW (ls : List Lk) : Prop := ∀ l ∈ ls, l.1 < l.2.1
theorem LW.mid {l1 l2 : List Lk} {e : Lk} (h : LW (l1 ++ e :: l2)) : LW (l1 ++ l2) := fun l hl => h l (by
  rcases List.mem_append.mp hl with h | h
  · exact List.mem_append_left _ h
  · exact List.mem_append_right _ (List.mem_cons_of_mem _ h))
structure Cut (X : List Lk → List Int → Int) : Prop where
  emp : ∀ ls, X ls [] = 1
  iso : ∀ ls U, LW ls → U.Nodup → U ≠ [] → (∀ l ∈ ls, (l.1 ∈ U ↔ l.2.1 ∈ U)) → X ls U = 0
  step : ∀ l1 e l2 pre u post, LW (l1 ++ e :: l2) → (pre ++ u :: post).Nodup → End e u (pre ++ u :: post) → X (l1 ++ e :: l2) (pre ++ u :: post) = X (l1 ++ l2) (pre ++ u :: post) + e.2.2 * X (l1 ++ l2) (pre ++ post)
theorem cut_or (ls : List Lk) (U : List Int) : (∃ l1 e l2 pre u post, ls = l1 ++ e :: l2 ∧ U = pre ++ u :: post ∧ End e u U) ∨ (∀ l ∈ ls, (l.1 ∈ U ↔ l.2.1 ∈ U)) := by
  by_cases h : ∃ l ∈ ls, ¬ (l.1 ∈ U ↔ l.2.1 ∈ U)
  · obtain ⟨e, he, hn⟩ := h
    left
    obtain ⟨l1, l2, h1⟩ := List.append_of_mem he
    by_cases h2 : e.1 ∈ U
    · have h3 : e.2.1 ∉ U := fun h3 => hn ⟨fun _ => h3, fun _ => h2⟩
      obtain ⟨pre, post, h4⟩ := List.append_of_mem h2
      exact ⟨l1, e, l2, pre, e.1, post, h1, h4, .inl ⟨rfl, h3⟩⟩
    · have h3 : e.2.1 ∈ U := by
        by_cases h3 : e.2.1 ∈ U
        · exact h3
        · exact absurd ⟨fun h => absurd h h2, fun h => absurd h h3⟩ hn
      obtain ⟨pre, post, h4⟩ := List.append_of_mem h3
      exact ⟨l1, e, l2, pre, e.2.1, post, h1, h4, .inr ⟨rfl, h2⟩⟩
  · right
    intro l hl
    by_cases k : (l.1 ∈ U ↔ l.2.1 ∈ U)
    · exact k
    · exact absurd ⟨l, hl, k⟩ h
theorem nodup_mid {pre post : List Int} {u : Int} (h : (pre ++ u :: post).Nodup) : (pre ++ post).Nodup ∧ u ∉ pre ++ post := by
  have h2 : (u :: (pre ++ post)).Nodup := (List.perm_middle.nodup_iff).mp h
  exact ⟨(List.nodup_cons.mp h2).2, (List.nodup_cons.mp h2).1⟩
theorem Cut.uniq {X Y : List Lk → List Int → Int} (a : Cut X) (b : Cut Y) : ∀ (n : Nat) (ls : List Lk) (U : List Int), ls.length = n → LW ls → U.Nodup → X ls U = Y ls U := fun n => by
  induction n with
  | zero =>
    intro ls U h w d
    by_cases ue : U = []
    · rw [ue, a.emp, b.emp]
    · have : ls = [] := List.length_eq_zero_iff.mp h
      subst this
      rw [a.iso [] U w d ue (fun l hl => by cases hl), b.iso [] U w d ue (fun l hl => by cases hl)]
  | succ n ih =>
    intro ls U h w d
    by_cases ue : U = []
    · rw [ue, a.emp, b.emp]
    · rcases cut_or ls U with ⟨l1, e, l2, pre, u, post, rfl, rfl, he⟩ | h2
      · have hl : (l1 ++ l2).length = n := by
          rw [List.length_append, List.length_cons] at h
          rw [List.length_append]
          omega
        rw [a.step l1 e l2 pre u post w d he, b.step l1 e l2 pre u post w d he, ih _ _ hl w.mid d, ih _ _ hl w.mid (nodup_mid d).1]
      · rw [a.iso ls U w d ue h2, b.iso ls U w d ue h2]
/-- each part is led out of -/
def Conn (s : List Lk) (U : List Int) : Prop := ∀ P : Int → Bool, (∃ p ∈ U, P p = true) → (∀ p, P p = true → p ∈ U) → ∃ l ∈ s, P l.1 ≠ P l.2.1
theorem mem_mid {pre post : List Int} {u p : Int} : p ∈ pre ++ u :: post ↔ p = u ∨ p ∈ pre ++ post := by
  rw [List.mem_append, List.mem_cons, List.mem_append]
  constructor
  · rintro (h | h | h)
    · exact .inr (.inl h)
    · exact .inl h
    · exact .inr (.inr h)
  · rintro (h | h | h)
    · exact .inr (.inl h)
    · exact .inl h
    · exact .inr (.inr h)
theorem conn_cut {e : Lk} {s : List Lk} {pre post : List Int} {u : Int} (d : (pre ++ u :: post).Nodup) (he : End e u (pre ++ u :: post)) : Conn (e :: s) (pre ++ u :: post) ↔ Conn s (pre ++ post) := by
  have hu := (nodup_mid d).2
  constructor
  · intro h P ⟨p, hp, q⟩ hP
    obtain ⟨l, hl, hne⟩ := h P ⟨p, mem_mid.mpr (.inr hp), q⟩ fun p q => mem_mid.mpr (.inr (hP p q))
    rcases List.mem_cons.mp hl with rfl | hl
    · exfalso
      have h1 : P u = false := by
        cases k : P u with
        | false => rfl
        | true => exact absurd (hP u k) hu
      have h2 : ∀ x, x ∉ pre ++ u :: post → P x = false := fun x hx => by
        cases k : P x with
        | false => rfl
        | true => exact absurd (mem_mid.mpr (.inr (hP x k))) hx
      rcases he with ⟨rfl, h3⟩ | ⟨rfl, h3⟩
      · exact hne (by rw [h1, h2 _ h3])
      · exact hne (by rw [h1, h2 _ h3])
    · exact ⟨l, hl, hne⟩
  · intro h P ⟨p, hp, q⟩ hP
    cases k : P u with
    | true =>
      refine ⟨e, List.mem_cons_self, ?_⟩
      have h2 : ∀ x, x ∉ pre ++ u :: post → P x = false := fun x hx => by
        cases k : P x with
        | false => rfl
        | true => exact absurd (hP x k) hx
      rcases he with ⟨rfl, h3⟩ | ⟨rfl, h3⟩
      · rw [k, h2 _ h3]; decide
      · rw [k, h2 _ h3]; decide
    | false =>
      have hn : ∀ x, P x = true → x ∈ pre ++ post := fun x hx => by
        rcases mem_mid.mp (hP x hx) with rfl | h
        · rw [k] at hx; cases hx
        · exact h
      obtain ⟨l, hl, hne⟩ := h P ⟨p, hn p q, q⟩ hn
      exact ⟨l, List.mem_cons_of_mem _ hl, hne⟩
theorem conn_mid {e : Lk} {l1 l2 : List Lk} {U : List Int} : Conn (l1 ++ e :: l2) U ↔ Conn (e :: (l1 ++ l2)) U := by
  have h : ∀ l, l ∈ l1 ++ e :: l2 ↔ l ∈ e :: (l1 ++ l2) := fun l => (List.perm_middle.mem_iff)
  unfold Conn
  simp only [h]
theorem Cut.pos {X : List Lk → List Int → Int} (a : Cut X) : ∀ (n : Nat) (ls : List Lk) (U : List Int), ls.length = n → LW ls → (∀ l ∈ ls, 1 ≤ l.2.2) → U.Nodup → 0 ≤ X ls U ∧ (Conn ls U → 1 ≤ X ls U) := fun n => by
  induction n with
  | zero =>
    intro ls U h w _ d
    have : ls = [] := List.length_eq_zero_iff.mp h
    subst this
    by_cases ue : U = []
    · rw [ue, a.emp]
      exact ⟨by decide, fun _ => by decide⟩
    · rw [a.iso [] U w d ue (fun l hl => by cases hl)]
      refine ⟨by decide, fun h => ?_⟩
      obtain ⟨p, hp⟩ := List.exists_mem_of_ne_nil _ ue
      obtain ⟨l, hl, _⟩ := h (fun p => decide (p ∈ U)) ⟨p, hp, decide_eq_true hp⟩ fun p h => of_decide_eq_true h
      cases hl
  | succ n ih =>
    intro ls U h w hw d
    by_cases ue : U = []
    · rw [ue, a.emp]
      exact ⟨by decide, fun _ => by decide⟩
    · rcases cut_or ls U with ⟨l1, e, l2, pre, u, post, rfl, rfl, he⟩ | h2
      · have hl : (l1 ++ l2).length = n := by
          rw [List.length_append, List.length_cons] at h
          rw [List.length_append]
          omega
        have hw' : ∀ l ∈ l1 ++ l2, 1 ≤ l.2.2 := fun l hl => hw l (by
          rcases List.mem_append.mp hl with h | h
          · exact List.mem_append_left _ h
          · exact List.mem_append_right _ (List.mem_cons_of_mem _ h))
        have he1 : 1 ≤ e.2.2 := hw e (List.mem_append_right _ List.mem_cons_self)
        obtain ⟨i1, _⟩ := ih _ _ hl w.mid hw' d
        obtain ⟨j1, j2⟩ := ih _ _ hl w.mid hw' (nodup_mid d).1
        rw [a.step l1 e l2 pre u post w d he]
        have j3 : 0 ≤ e.2.2 * X (l1 ++ l2) (pre ++ post) := Int.mul_nonneg (by omega) j1
        refine ⟨by omega, fun hc => ?_⟩
        have j4 := j2 ((conn_cut d he).mp (conn_mid.mp hc))
        have j5 : 1 * 1 ≤ e.2.2 * X (l1 ++ l2) (pre ++ post) := Int.mul_le_mul he1 j4 (by decide) (by omega)
        omega
      · rw [a.iso ls U w d ue h2]
        refine ⟨by decide, fun h => ?_⟩
        obtain ⟨p, hp⟩ := List.exists_mem_of_ne_nil _ ue
        obtain ⟨l, hl, hn⟩ := h (fun p => decide (p ∈ U)) ⟨p, hp, decide_eq_true hp⟩ fun p h => of_decide_eq_true h
        exact absurd (by rw [Bool.eq_iff_iff, decide_eq_true_eq, decide_eq_true_eq]; exact h2 l hl) hn
/-! the matrix of what the links make -/
def Lm (ls : List Lk) (p o : Int) : Int := if p = o then sz ls p else - Lbt ls p o
theorem sz_mid (e : Lk) (l2 : List Lk) (p : Int) : ∀ l1 : List Lk, sz (l1 ++ e :: l2) p = sz (l1 ++ l2) p + if e.1 = p ∨ e.2.1 = p then e.2.2 else 0
  | [] => by rw [List.nil_append, List.nil_append, sz_cons]; omega
  | l :: l1 => by
    rw [List.cons_append, List.cons_append, sz_cons, sz_cons, sz_mid e l2 p l1]
    omega
theorem Lbt_mid (e : Lk) (l2 : List Lk) (i j : Int) : ∀ l1 : List Lk, Lbt (l1 ++ e :: l2) i j = Lbt (l1 ++ l2) i j + if hit i j e = true then e.2.2 else 0
  | [] => by rw [List.nil_append, List.nil_append, Lbt_cons]; omega
  | l :: l1 => by
    rw [List.cons_append, List.cons_append, Lbt_cons, Lbt_cons, Lbt_mid e l2 i j l1]
    omega
theorem oth_in {U : List Int} {p : Int} (hp : p ∈ U) {l : Lk} (h : l.1 ∈ U ↔ l.2.1 ∈ U) (hl : l.1 < l.2.1) (a : l.1 = p ∨ l.2.1 = p) : oth l p ∈ U ∧ oth l p ≠ p := by
  unfold oth
  by_cases k : l.1 = p
  · subst k
    rw [if_pos rfl]
    exact ⟨h.mp hp, by omega⟩
  · rw [if_neg k]
    rcases a with a | a
    · exact absurd a k
    · subst a
      exact ⟨h.mpr hp, by omega⟩
theorem sz_in {U : List Int} (d : U.Nodup) {p : Int} (hp : p ∈ U) : ∀ ls : List Lk, LW ls → (∀ l ∈ ls, (l.1 ∈ U ↔ l.2.1 ∈ U)) → (U.map fun o => if o = p then 0 else Lbt ls p o).sum = sz ls p
  | [], _, _ => by
    have e : (U.map fun o => if o = p then 0 else Lbt [] p o) = U.map fun _ => 0 := List.map_congr_left fun o _ => by
      show (if o = p then 0 else 0) = 0
      split <;> rfl
    rw [e]
    have := su_mul (0 : Int) (fun _ : Int => 0) U
    simp only [Int.zero_mul] at this
    exact this
  | l :: r, w, h => by
    have ih := sz_in d hp r (fun m hm => w m (List.mem_cons_of_mem _ hm)) fun m hm => h m (List.mem_cons_of_mem _ hm)
    have hl := w l List.mem_cons_self
    have e : (U.map fun o => if o = p then 0 else Lbt (l :: r) p o) = U.map fun o => (if o = oth l p then (if l.1 = p ∨ l.2.1 = p then l.2.2 else 0) else 0) + (if o = p then 0 else Lbt r p o) := List.map_congr_left fun o _ => by
      rw [Lbt_cons]
      by_cases a : l.1 = p ∨ l.2.1 = p
      · have h2 := oth_in hp (h l List.mem_cons_self) hl a
        by_cases ho : o = p
        · rw [if_pos ho, if_pos ho, if_neg (by rw [ho]; exact h2.2.symm)]
          rfl
        · rw [if_neg ho, if_neg ho, if_pos a]
          by_cases b : o = oth l p
          · rw [if_pos b, if_pos ((hit_oth hl).mpr ⟨a, b⟩)]
          · rw [if_neg b, if_neg fun k => b ((hit_oth hl).mp k).2]
      · rw [if_neg a, if_neg (fun k => a ((hit_oth hl).mp k).1)]
        split <;> split <;> omega
    rw [e, su_add, ind_eq _ d, ih, sz_cons]
    congr 1
    by_cases a : l.1 = p ∨ l.2.1 = p
    · rw [if_pos a, if_pos (oth_in hp (h l List.mem_cons_self) hl a).1]
    · rw [if_neg a]
      split <;> rfl
def DX (ls : List Lk) (U : List Int) : Int := Dt (Lm ls) U U
theorem cut_D : Cut DX := by
  refine ⟨fun _ => rfl, fun ls U w d e h => ?_, fun l1 e l2 pre u post w d he => ?_⟩
  · obtain ⟨k, hk⟩ := List.exists_mem_of_ne_nil _ e
    refine D_sum0 (Lm ls) d hk fun p hp => ?_
    have e1 : (U.map fun o => Lm ls p o) = U.map fun o => (if o = p then sz ls p else 0) + -1 * (if o = p then 0 else Lbt ls p o) := List.map_congr_left fun o _ => by
      unfold Lm
      by_cases a : o = p
      · subst a
        simp
      · rw [if_neg (fun q => a q.symm), if_neg a, if_neg a]
        omega
    rw [e1, su_add, su_mul, ind_eq _ d, if_pos hp, sz_in d hp ls w h]
    omega
  · obtain ⟨d1, d2⟩ := nodup_mid d
    have hu : ∀ x, x ∈ u :: (pre ++ post) → x ∈ pre ++ u :: post := fun x hx => mem_mid.mpr (List.mem_cons.mp hx)
    unfold DX
    rw [front_D _ u _ pre post rfl, front_D (Lm (l1 ++ l2)) u _ pre post rfl]
    refine D_corner (fun r hr c hc hn => ?_) ?_ d2
    · have hr := hu r hr
      have hc := hu c hc
      unfold Lm
      rw [sz_mid, Lbt_mid]
      by_cases rc : r = c
      · subst rc
        have hru : ¬ r = u := fun e => hn ⟨e, e⟩
        rw [if_pos rfl, if_pos rfl, if_neg, Int.add_zero]
        rcases he with ⟨rfl, h3⟩ | ⟨rfl, h3⟩
        · rintro (h | h)
          · exact hru h.symm
          · exact h3 (by rw [h]; exact hr)
        · rintro (h | h)
          · exact h3 (by rw [h]; exact hr)
          · exact hru h.symm
      · rw [if_neg rc, if_neg rc, if_neg, Int.add_zero]
        intro k
        have hl := w e (List.mem_append_right _ List.mem_cons_self)
        have k2 := (hit_iff hl).mp k
        have k3 : e.1 ∈ pre ++ u :: post ∧ e.2.1 ∈ pre ++ u :: post := by
          rw [k2.1, k2.2]
          rcases Int.le_total r c with q | q
          · rw [Int.min_eq_left q, Int.max_eq_right q]
            exact ⟨hr, hc⟩
          · rw [Int.min_eq_right q, Int.max_eq_left q]
            exact ⟨hc, hr⟩
        rcases he with ⟨_, h3⟩ | ⟨_, h3⟩
        · exact h3 k3.2
        · exact h3 k3.1
    · unfold Lm
      rw [if_pos rfl, if_pos rfl, sz_mid, if_pos]
      rcases he with ⟨h, _⟩ | ⟨h, _⟩
      · exact .inl h
      · exact .inr h
end Pe

set_option maxHeartbeats 4400000
namespace Pe
open Dn
open PySem (PyData)
/-! ### the law's measure is the determinant -/
theorem noX_ok' {g : FF} {ds : List D} {d : D} (h : g ds = some (.ok d)) : noX g ds = some (.ok d) := by
  unfold noX
  rw [h]
theorem size1m : (1000000 : Nat) ≤ PySem.sizeLine := by decide
theorem addLL {xs ys : List D} (h : xs.length + ys.length ≤ 1000000) : addD (.list xs) (.list ys) = some (.list (xs ++ ys)) := if_pos (Nat.le_trans h size1m)
theorem addTT {xs ys : List D} (h : xs.length + ys.length ≤ 1000000) : addD (.tuple xs) (.tuple ys) = some (.tuple (xs ++ ys)) := if_pos (Nat.le_trans h size1m)
def rw_ (M : Int → Int → Int) (C : List Int) (r : Int) : D := .list (C.map fun c => .int (M r c))
def mt (M : Int → Int → Int) (R C : List Int) : D := .list (R.map (rw_ M C))
theorem rw_ints (M : Int → Int → Int) (C : List Int) (r : Int) : rw_ M C r = .list ((C.map (M r)).map .int) := by
  unfold rw_
  rw [List.map_map]
  rfl
theorem ok_mt (M : Int → Int → Int) (R C : List Int) : okD (mt M R C) = true := by
  have h1 : PyData.plainAll (R.map (rw_ M C)) = true := by
    induction R with
    | nil => rfl
    | cons r R ih =>
      rw [List.map_cons, rw_ints]
      simp [PyData.plainAll, PyData.plain, ih, plainG, -List.map_map]
  have h2 : PyData.depthAll (R.map (rw_ M C)) ≤ 2 := by
    induction R with
    | nil => exact Nat.zero_le _
    | cons r R ih =>
      rw [List.map_cons, rw_ints]
      have h1' : PyData.plainAll (R.map (rw_ M C)) = true := by
        rw [List.map_cons] at h1
        simp [PyData.plainAll] at h1
        exact h1.2
      have := ih h1'
      simp [PyData.depthAll, PyData.depth, depthG, -List.map_map]
      omega
  unfold okD mt
  simp [PyData.plain, PyData.depth, h1]
  omega
theorem eq_mt (M : Int → Int → Int) (R C : List Int) : eqD (mt M R C) (.list []) = some (.bool R.isEmpty) := by
  unfold eqD
  have h2 : okD (.list []) = true := by
    unfold okD
    simp [PyData.plain, PyData.plainAll, PyData.depth, PyData.depthAll]
  rw [ok_mt, h2]
  cases R with
  | nil => simp [mt, PyData.eqv, PyData.eqvAll]
  | cons n ns => simp [mt, PyData.eqv, PyData.eqvAll]
def sg (n : Nat) : Int := 1 - (n : Int) % 2 * 2
theorem sg_succ (n : Nat) : sg (n + 1) = - sg n := by
  unfold sg
  omega
theorem sg_mul (a : Int) (n : Nat) : mulD (.int a) (.int (1 - (n : Int) % 2 * 2)) = some (.int (a * (1 - (n : Int) % 2 * 2))) := by
  have h : (n : Int) % 2 = 0 ∨ (n : Int) % 2 = 1 := by omega
  rcases h with h | h
  · rw [h]
    exact mulD_small (by decide)
  · rw [h]
    exact mulD_small (by decide)
noncomputable def bd_me (F : FF) : SF := (Dn.sSeq (Dn.sAsg (Dn.gName 4) (Dn.eComp (Dn.iSeq (Dn.eCut (Dn.eVarW 0) (Dn.oInt (Dn.eC (.int 1))) Dn.oNo)) (Dn.gName 5) Dn.tYesF (Dn.e2 Dn.addD (Dn.eCut (Dn.eVarW 5) Dn.oNo (Dn.oInt (Dn.eVarW 2))) (Dn.eCut (Dn.eVarW 5) (Dn.oInt (Dn.e2 Dn.addD (Dn.eVarW 2) (Dn.eC (.int 1)))) Dn.oNo)) [5]))
    (Dn.sAsg (Dn.gName 1) (Dn.e2 Dn.addD (Dn.eVarW 1) (Dn.e2 Dn.mulD (Dn.e2 Dn.mulD (Dn.eVarW 3) (Dn.eCall (Dn.noX F) (Dn.aCons (Dn.eVar 4) Dn.aNil))) (Dn.e2 Dn.subD (Dn.eC (.int 1)) (Dn.e2 Dn.mulD (Dn.e2 Dn.modD (Dn.eVarW 2) (Dn.eC (.int 2))) (Dn.eC (.int 2))))))))
theorem cut_row (M : Int → Int → Int) (pre post : List Int) (x q : Int) (hl : (pre ++ x :: post).length ≤ 1000) : ∃ a b, cutD none (some ((pre.length : Nat) : Int)) (rw_ M (pre ++ x :: post) q) = some (.list a) ∧ cutD (some ((pre.length : Nat) + 1 : Int)) none (rw_ M (pre ++ x :: post) q) = some (.list b) ∧ addD (.list a) (.list b) = some (rw_ M (pre ++ post) q) := by
  have h1 : pre.length ≤ ((pre ++ x :: post).map fun c => PyData.int (M q c)).length := by
    rw [List.length_map, List.length_append]
    omega
  have h2 : pre.length + 1 ≤ ((pre ++ x :: post).map fun c => PyData.int (M q c)).length := by
    rw [List.length_map, List.length_append, List.length_cons]
    omega
  rw [List.length_append, List.length_cons] at hl
  refine ⟨pre.map fun c => .int (M q c), post.map fun c => .int (M q c), ?_, ?_, ?_⟩
  · show some (PyData.list (cutL _ none (some ((pre.length : Nat) : Int)))) = _
    rw [cut_lo _ h1]
    simp
  · rw [show ((pre.length : Nat) + 1 : Int) = ((pre.length + 1 : Nat) : Int) from (Int.natCast_succ _).symm]
    show some (PyData.list (cutL _ (some ((pre.length + 1 : Nat) : Int)) none)) = _
    rw [cut_hi _ h2, List.map_append, List.map_cons, List.drop_append, List.length_map]
    simp
  · rw [addLL (by rw [List.length_map, List.length_map]; omega)]
    unfold rw_
    rw [List.map_append]
theorem lp_me {M : Int → Int → Int} {r : Int} {R C : List Int} {F : FF} (hl : C.length ≤ 1000) (hR : R.length ≤ 1000) (hb : ∀ c ∈ C, -(2 ^ 64) < M r c ∧ M r c < 2 ^ 64) (ih : ∀ pre x post, C = pre ++ x :: post → F [mt M R (pre ++ post)] = some (.ok (.int (Dt M R (pre ++ post))))) : ∀ (post pre : List Int) (acc : Int) (s2 s3 s4 s5 : Option Sl), C = pre ++ post → ∃ s2' s3' s4' s5',
    forL (gTup [2, 3]) (bd_me F) (enumL pre.length (post.map fun c => .int (M r c))) [some (.dat (mt M (r :: R) C)), some (.dat (.int acc)), s2, s3, s4, s5] = some (.nx [some (.dat (mt M (r :: R) C)), some (.dat (.int (acc + sg pre.length * ex (M r) (fun l => Dt M R (pre ++ l)) post))), s2', s3', s4', s5'])
  | [], pre, acc, s2, s3, s4, s5, h => ⟨s2, s3, s4, s5, by simp [enumL, forL, ex]⟩
  | x :: post, pre, acc, s2, s3, s4, s5, h => by
    have hx := hb x (by rw [h]; exact List.mem_append_right _ List.mem_cons_self)
    obtain ⟨t2, t3, t4, t5, hrec⟩ := lp_me hl hR hb ih post (pre ++ [x]) (acc + sg pre.length * (M r x * Dt M R (pre ++ post))) (some (.dat (.int pre.length))) (some (.dat (.int (M r x)))) (some (.dat (mt M R (pre ++ post)))) s5 (by rw [h]; simp)
    refine ⟨t2, t3, t4, t5, ?_⟩
    have hc1 : cutD (some 1) none (mt M (r :: R) C) = some (.list (R.map (rw_ M C))) := by
      show some (PyData.list (cutL _ (some ((1 : Nat) : Int)) none)) = _
      rw [cut_hi _ (by rw [List.length_map, List.length_cons]; omega)]
      rfl
    have hbd : bd_me F [some (.dat (mt M (r :: R) C)), some (.dat (.int acc)), some (.dat (.int pre.length)), some (.dat (.int (M r x))), s4, s5] = some (.nx [some (.dat (mt M (r :: R) C)), some (.dat (.int (acc + sg pre.length * (M r x * Dt M R (pre ++ post))))), some (.dat (.int pre.length)), some (.dat (.int (M r x))), some (.dat (mt M R (pre ++ post))), s5]) := by
      unfold bd_me
      rw [seq_nx (ρ' := [some (.dat (mt M (r :: R) C)), some (.dat (.int acc)), some (.dat (.int pre.length)), some (.dat (.int (M r x))), some (.dat (mt M R (pre ++ post))), s5]) (by
        rw [ev_sAsg, comp_of (rw_ M C) R (rw_ M (pre ++ post)) (by simp [eCut, oInt, oNo, intOf, hc1]) (by omega) (fun q hq => ⟨_, rfl, by
          obtain ⟨a, b, k1, k2, k3⟩ := cut_row M pre post x q (by rw [← h]; exact hl)
          rw [← h] at k1 k2
          simp [eCut, oInt, oNo, intOf, k1, k2, k3]⟩)]
        rfl)]
      have e1 : (F [mt M R (pre ++ post)]) = some (.ok (.int (Dt M R (pre ++ post)))) := ih pre x post h
      have e2 := noX_ok' e1
      have e3 : mulD (.int ((pre.length : Int) % 2)) (.int 2) = some (.int ((pre.length : Int) % 2 * 2)) := mulD_small (by decide)
      have e4 : mulD (.int (M r x * Dt M R (pre ++ post))) (.int (1 - (pre.length : Int) % 2 * 2)) = some (.int (M r x * Dt M R (pre ++ post) * (1 - (pre.length : Int) % 2 * 2))) := sg_mul _ _
      have e5 := mul_l (b := Dt M R (pre ++ post)) hx
      have e6 : modD (.int (pre.length : Int)) (.int 2) = some (.int ((pre.length : Int) % 2)) := modI (by decide)
      generalize hρ : [some (Sl.dat (mt M (r :: R) C)), some (.dat (.int acc)), some (.dat (.int pre.length)), some (.dat (.int (M r x))), some (.dat (mt M R (pre ++ post))), s5] = ρ
      have w1 : eVarW 1 ρ = some (.ok (.int acc)) := by rw [← hρ]; rfl
      have w2 : eVarW 2 ρ = some (.ok (.int pre.length)) := by rw [← hρ]; rfl
      have w3 : eVarW 3 ρ = some (.ok (.int (M r x))) := by rw [← hρ]; rfl
      have w4 : eVar 4 ρ = some (.ok (mt M R (pre ++ post))) := by rw [← hρ]; rfl
      have v4 : eCall (noX F) (aCons (eVar 4) aNil) ρ = some (.ok (.int (Dt M R (pre ++ post)))) := by
        rw [ev_call, ev_aCons, w4]
        exact e2
      have v2 := e2_of (e2_of w2 (ev_c (d := .int 2)) e6) (ev_c (d := .int 2)) e3
      have v3 := e2_of (ev_c (ρ := ρ) (d := .int 1)) v2 (ev_subI 1 _)
      have v6 := e2_of (e2_of w3 v4 e5) v3 e4
      have v7 := e2_of w1 v6 (ev_addI acc _)
      rw [ev_sAsg, v7, bS_ok, ev_gName, ← hρ, Int.mul_comm (M r x * Dt M R (pre ++ post))]
      rfl
    rw [List.map_cons]
    show forL (gTup [2, 3]) (bd_me F) (PyData.tuple [.int pre.length, .int (M r x)] :: enumL (pre.length + 1) (post.map fun c => .int (M r c))) _ = _
    unfold forL
    rw [show gTup [2, 3] (PyData.tuple [.int pre.length, .int (M r x)]) [some (.dat (mt M (r :: R) C)), some (.dat (.int acc)), s2, s3, s4, s5] = some [some (.dat (mt M (r :: R) C)), some (.dat (.int acc)), some (.dat (.int pre.length)), some (.dat (.int (M r x))), s4, s5] from rfl]
    simp only
    rw [hbd]
    simp only
    rw [List.length_append, List.length_singleton] at hrec
    rw [hrec, sg_succ]
    have e5 : acc + sg pre.length * (M r x * Dt M R (pre ++ post)) + -sg pre.length * ex (M r) (fun l => Dt M R (pre ++ [x] ++ l)) post = acc + sg pre.length * ex (M r) (fun l => Dt M R (pre ++ l)) (x :: post) := by
      simp only [ex]
      have : (fun l => Dt M R (pre ++ [x] ++ l)) = fun l => Dt M R (pre ++ x :: l) := funext fun l => by simp
      rw [this, Int.mul_sub, Int.neg_mul]
      generalize sg pre.length * ex (M r) (fun l => Dt M R (pre ++ x :: l)) post = a
      generalize sg pre.length * (M r x * Dt M R (pre ++ post)) = b
      omega
    rw [e5]
theorem ev_measure (M : Int → Int → Int) : ∀ (d : Nat) (R C : List Int), R.length < d → R.length ≤ 1000 → R.length = C.length → (∀ r ∈ R, ∀ c ∈ C, -(2 ^ 64) < M r c ∧ M r c < 2 ^ 64) → Dg.L_measure d [mt M R C] = some (.ok (.int (Dt M R C)))
  | 0, R, C, h, _, _, _ => by omega
  | d + 1, [], C, h, h2, h3, hb => by
    have : C = [] := List.length_eq_zero_iff.mp h3.symm
    subst this
    refine runF_ok rfl ?_
    show Dg.b_L_measure _ [some (.dat (mt M [] [])), none, none, none, none, none] = _
    unfold Dg.b_L_measure
    rw [seq_rt (d := .int 1) (by simp [eq_mt])]
    rfl
  | d + 1, r :: R, C, h, h2, h3, hb => by
    rw [List.length_cons] at h h2 h3
    refine runF_ok rfl ?_
    show Dg.b_L_measure _ [some (.dat (mt M (r :: R) C)), none, none, none, none, none] = _
    unfold Dg.b_L_measure
    rw [seq_nx (ρ' := [some (.dat (mt M (r :: R) C)), none, none, none, none, none]) (by simp [eq_mt])]
    rw [seq_nx (ρ' := [some (.dat (mt M (r :: R) C)), some (.dat (.int 0)), none, none, none, none]) (by simp)]
    obtain ⟨t2, t3, t4, t5, hl⟩ := lp_me (M := M) (r := r) (R := R) (C := C) (F := Dg.L_measure d) (by omega) (by omega) (hb r List.mem_cons_self) (fun pre x post e => ev_measure M d R (pre ++ post) (by omega) (by omega) (by rw [e, List.length_append, List.length_cons] at h3; rw [List.length_append]; omega) fun q hq c hc => hb q (List.mem_cons_of_mem _ hq) c (by
      rw [e]
      rcases List.mem_append.mp hc with h | h
      · exact List.mem_append_left _ h
      · exact List.mem_append_right _ (List.mem_cons_of_mem _ h))) C [] 0 none none none none rfl
    have hi : ixD (mt M (r :: R) C) (.int 0) = some (rw_ M C r) := by
      show (ixNat (List.map (rw_ M C) (r :: R)).length 0).bind _ = _
      simp [ixNat]
    have he : enumAD (rw_ M C r) = some (enumL 0 (C.map fun c => .int (M r c))) := rfl
    have q2 : (0 : Int) + sg 0 * ex (M r) (fun l => Dt M R ([] ++ l)) C = Dt M (r :: R) C := by
      have : (fun l => Dt M R ([] ++ l)) = Dt M R := funext fun l => rfl
      rw [this]
      show 0 + sg 0 * _ = ex (M r) (Dt M R) C
      simp [sg]
    rw [List.length_nil, q2] at hl
    rw [seq_nx (by
      rw [ev_sFor]
      show bS (bnd (e2 ixD (eVarW 0) (eC (.int 0)) _) fun a => lft (enumAD a)) _ = _
      simp only [ev_e2, ev_varW, ev_c, List.getElem?_cons_zero, ev_ret, bnd_ok, hi, he, lft_some, bS_ok]
      exact hl)]
    simp
end Pe

set_option maxHeartbeats 4400000
namespace Pe
open Dn
open PySem (PyData)
/-! ### the other half of Cramer: the whole times lead back -/
theorem ex_put (m : Int → Int) (z : Int) : ∀ (C : List Int) (F : List Int → Int), C.Nodup → Alt F → ex m (fun l => F (z :: l)) C = (C.map fun k => m k * F (C.map fun c => if c = k then z else c)).sum
  | [], _, _, _ => rfl
  | x :: C, F, hn, hF => by
    have hn' := List.nodup_cons.mp hn
    have ih := ex_put m z C (fun l => F (x :: l)) hn'.2 (hF.cons x)
    simp only [ex, List.map_cons, List.sum_cons, if_pos]
    have e1 : ex m (fun l => F (z :: x :: l)) C = - ex m (fun l => F (x :: z :: l)) C := by
      have := ex_lin m (-1) 0 C (fun l => F (x :: z :: l)) (fun _ => 0)
      rw [show (fun l => F (z :: x :: l)) = fun l => -1 * F (x :: z :: l) + 0 * 0 from funext fun l => by have := hF [] z x l; simp only [List.nil_append] at this; omega, this]
      omega
    have e2 : C.map (fun c => if c = x then z else c) = C := by
      have : C.map (fun c => if c = x then z else c) = C.map id := List.map_congr_left fun c hc => if_neg fun e => hn'.1 (by rw [← e]; exact hc)
      rw [this, List.map_id]
    have e3 : (C.map fun k => m k * F ((if x = k then z else x) :: C.map fun c => if c = k then z else c)) = C.map fun k => m k * F (x :: C.map fun c => if c = k then z else c) := List.map_congr_left fun k hk => by
      rw [if_neg fun e => hn'.1 (by rw [e]; exact hk)]
    rw [e1, ih, e2, e3]
    omega
theorem alt_rows (M : Int → Int → Int) (C : List Int) : Alt fun R => Dt M R C := fun pre a b post => swap_D M a b post C pre C
theorem fresh_ex : ∀ C : List Int, ∃ z, ∀ c ∈ C, c < z
  | [] => ⟨0, fun c h => by cases h⟩
  | x :: C => by
    obtain ⟨z, h⟩ := fresh_ex C
    refine ⟨max z (x + 1), fun c hc => ?_⟩
    rcases List.mem_cons.mp hc with rfl | hc
    · omega
    · have := h c hc
      omega
theorem adj_D (M : Int → Int → Int) (v : Int → Int) {R C : List Int} (hn : C.Nodup) {p : Int} (hp : p ∈ R) : (C.map fun k => M p k * Dt (col M k v) R C).sum = v p * Dt M R C := by
  obtain ⟨z, hz⟩ := fresh_ex C
  have hzC : z ∉ C := fun h => by
    have := hz z h
    omega
  have h0 : Dt (col M z v) (p :: R) (z :: C) = 0 := by
    obtain ⟨pre, post, rfl⟩ := List.append_of_mem hp
    exact (alt_rows (col M z v) (z :: C)).two p pre post
  have h1 : Dt (col M z v) (p :: R) (z :: C) = col M z v p z * Dt (col M z v) R C - ex (col M z v p) (fun l => Dt (col M z v) R (z :: l)) C := rfl
  rw [ex_put _ z C _ hn (alt_D _ R)] at h1
  have h2 : col M z v p z = v p := if_pos rfl
  have h3 : Dt (col M z v) R C = Dt M R C := D_congr fun r _ c hc => if_neg fun e => hzC (by rw [← e]; exact hc)
  have h4 : (C.map fun k => col M z v p k * Dt (col M z v) R (C.map fun c => if c = k then z else c)) = C.map fun k => M p k * Dt (col M k v) R C := List.map_congr_left fun k hk => by
    have a : col M z v p k = M p k := if_neg fun e => hzC (by rw [← e]; exact hk)
    rw [a, ← D_map]
    congr 1
    refine D_congr fun r _ c hc => ?_
    unfold col
    by_cases e : c = k
    · rw [if_pos e, if_pos rfl, if_pos e]
    · rw [if_neg e, if_neg e, if_neg fun e2 => hzC (by rw [← e2]; exact hc)]
  rw [h2, h3, h4] at h1
  omega
theorem La_Lm (c : Int) {ls : List Lk} (w : LW ls) (d : ND ls) (t : Int → Int) {p : Int} (hp : p ∈ nums c) : La c ls t p = ((nums c).map fun o => t o * Lm ls p o).sum := by
  have e : ((nums c).map fun o => t o * Lm ls p o) = (nums c).map fun o => (if o = p then t p * sz ls p else 0) + -1 * (if o = p then 0 else t o * btw ls p o) := List.map_congr_left fun o _ => by
    unfold Lm
    by_cases a : o = p
    · subst a
      simp
    · rw [if_neg (fun q => a q.symm), if_neg a, if_neg a, Lbt_eq p o ls w d, Int.mul_neg]
      omega
  rw [e, su_add, su_mul, ind_eq _ (nums_nodup c), if_pos hp]
  unfold La inc sumN
  omega
/-- what the links make -/
def det (c : Int) (ls : List Lk) : Int := DX ls (nums c)
theorem conn_Z {c : Int} {ls : List Lk} (z : Z c ls) : Conn ls (nums c) := fun P ⟨p0, hp0, q0⟩ hP => by
  obtain ⟨h, h0, h1⟩ := z.pot
  -- the least of them
  obtain ⟨q, hq, hmin⟩ : ∃ q ∈ (nums c).filter P, ∀ p ∈ (nums c).filter P, h q ≤ h p := by
    have : ∀ xs : List Int, xs ≠ [] → ∃ q ∈ xs, ∀ p ∈ xs, h q ≤ h p := fun xs => by
      induction xs with
      | nil => intro h; exact absurd rfl h
      | cons x xs ih =>
        intro _
        by_cases e : xs = []
        · subst e
          exact ⟨x, List.mem_cons_self, fun p hp => by
            rw [List.mem_singleton.mp hp]
            exact Int.le_refl _⟩
        · obtain ⟨q, hq, hm⟩ := ih e
          by_cases k : h x ≤ h q
          · exact ⟨x, List.mem_cons_self, fun p hp => by
              rcases List.mem_cons.mp hp with rfl | hp
              · exact Int.le_refl _
              · exact Int.le_trans k (hm p hp)⟩
          · exact ⟨q, List.mem_cons_of_mem _ hq, fun p hp => by
              rcases List.mem_cons.mp hp with rfl | hp
              · omega
              · exact hm p hp⟩
    exact this _ (List.ne_nil_of_mem (List.mem_filter.mpr ⟨hp0, q0⟩))
  by_cases hx : ∃ l ∈ ls, P l.1 ≠ P l.2.1
  · exact hx
  exfalso
  have hcl : ∀ l ∈ ls, (l.1 ∈ (nums c).filter P ↔ l.2.1 ∈ (nums c).filter P) := fun l hl => by
    have e : P l.1 = P l.2.1 := by
      by_cases k : P l.1 = P l.2.1
      · exact k
      · exact absurd ⟨l, hl, k⟩ hx
    rw [List.mem_filter, List.mem_filter]
    exact ⟨fun k => ⟨hP _ (e ▸ k.2), e ▸ k.2⟩, fun k => ⟨hP _ (e.symm ▸ k.2), e.symm ▸ k.2⟩⟩
  have hw : LW ls := fun l hl => (z.rng l hl).2.1
  obtain ⟨hqn, hqP⟩ := List.mem_filter.mp hq
  have hsz := sz_in ((nums_nodup c).filter P) hq ls hw hcl
  have hi := h1 q hqn
  -- what comes in is at least as much
  have hge : h q * sz ls q ≤ inc c ls h q := by
    rw [← hsz, ← su_mul]
    have e2 : (((nums c).filter P).map fun o => h q * (if o = q then 0 else Lbt ls q o)).sum = ((nums c).map fun o => if P o = true then h q * (if o = q then 0 else Lbt ls q o) else 0).sum := by
      induction nums c with
      | nil => rfl
      | cons x xs ih =>
        cases k : P x with
        | true => rw [List.filter_cons_of_pos k, List.map_cons, List.map_cons, List.sum_cons, List.sum_cons, ih, if_pos k]
        | false => rw [List.filter_cons_of_neg (by rw [k]; exact Bool.false_ne_true), List.map_cons, List.sum_cons, ih, if_neg (by rw [k]; exact Bool.false_ne_true)]; omega
    rw [e2]
    unfold inc sumN
    refine su_le _ _ _ fun o ho => ?_
    have hb := btw_bound z.m1 q o
    by_cases k : P o = true
    · rw [if_pos k]
      by_cases e : o = q
      · rw [if_pos e, if_pos e, Int.mul_zero]
        exact Int.le_refl _
      · rw [if_neg e, if_neg e, Lbt_eq q o ls hw z.dis]
        exact Int.mul_le_mul_of_nonneg_right (hmin o (List.mem_filter.mpr ⟨ho, k⟩)) hb.1
    · rw [if_neg k]
      have := h0 o ho
      split
      · exact Int.le_refl _
      · exact Int.mul_nonneg this hb.1
  omega
theorem det_pos {c : Int} {ls : List Lk} (z : Z c ls) (w1 : ∀ l ∈ ls, 1 ≤ l.2.2) : 1 ≤ det c ls :=
  (cut_D.pos _ ls (nums c) rfl (fun l hl => (z.rng l hl).2.1) w1 (nums_nodup c)).2 (conn_Z z)
/-- forced tumbles lead from one to the other just where all the measures are divided -/
theorem alk_det {c : Int} {ls : List Lk} (z : Z c ls) (hd : 1 ≤ det c ls) (a b : Int → Int) : Alk c ls a b ↔ ∀ k ∈ nums c, Dt (col (Lm ls) k fun p => a p - b p) (nums c) (nums c) % det c ls = 0 := by
  have hw : LW ls := fun l hl => (z.rng l hl).2.1
  have hn := nums_nodup c
  have hD : det c ls = Dt (Lm ls) (nums c) (nums c) := rfl
  rw [alk_iff]
  constructor
  · rintro ⟨t, ht⟩ k hk
    have e : Dt (col (Lm ls) k fun p => a p - b p) (nums c) (nums c) = t k * det c ls := by
      have := cramer (Lm ls) t hn hk (nums c) hn (fun _ h => h) (R := nums c)
      rw [if_pos hk] at this
      rw [hD, ← this]
      refine D_congr fun p hp o _ => ?_
      unfold col
      split
      · show a p - b p = ((nums c).map fun o => t o * Lm ls p o).sum
        rw [← La_Lm c hw z.dis t hp, ht p hp]
        omega
      · rfl
    rw [e]
    exact Int.mul_emod_left _ _
  · intro h
    refine ⟨fun k => Dt (col (Lm ls) k fun p => a p - b p) (nums c) (nums c) / det c ls, fun p hp => ?_⟩
    have hq : ∀ k ∈ nums c, Dt (col (Lm ls) k fun p => a p - b p) (nums c) (nums c) = det c ls * (Dt (col (Lm ls) k fun p => a p - b p) (nums c) (nums c) / det c ls) := fun k hk => by
      have := Int.mul_ediv_add_emod (Dt (col (Lm ls) k fun p => a p - b p) (nums c) (nums c)) (det c ls)
      rw [h k hk] at this
      omega
    have e := adj_D (Lm ls) (fun p => a p - b p) hn hp (R := nums c)
    have e2 : ((nums c).map fun k => Lm ls p k * Dt (col (Lm ls) k fun p => a p - b p) (nums c) (nums c)) = (nums c).map fun k => det c ls * ((Dt (col (Lm ls) k fun p => a p - b p) (nums c) (nums c) / det c ls) * Lm ls p k) := List.map_congr_left fun k hk => by
      rw [Int.mul_comm, hq k hk, Int.mul_assoc, ← hq k hk]
    rw [e2, su_mul, ← La_Lm c hw z.dis _ hp, ← hD, Int.mul_comm (a p - b p)] at e
    have := Int.eq_of_mul_eq_mul_left (by omega) e
    omega
end Pe

set_option maxHeartbeats 4400000
namespace Pe
open Dn
open PySem (PyData)
/-! ### the matrix, walked -/
theorem boolEq (a b : Bool) : eqD (.bool a) (.bool b) = some (.bool (a == b)) := by
  cases a <;> cases b <;> rfl
theorem Lm_bd {c : Int} {ls : List Lk} (z : Z c ls) (p o : Int) : -(2 ^ 64) < Lm ls p o ∧ Lm ls p o < 2 ^ 64 := by
  have h1 := sz_bound z.toG p
  have h2 := btw_bound z.m1 p o
  unfold Lm
  rw [Lbt_eq p o ls (fun l hl => (z.rng l hl).2.1) z.dis]
  split <;> omega
noncomputable def bd_mx : SF := (Dn.sSeq (Dn.sOwn 4 (Dn.eComp (Dn.iRng2 (Dn.eC (.int 1)) (Dn.e2 Dn.addD (Dn.e2 Dn.ixD (Dn.eVarW 0) (Dn.eC (.int 0))) (Dn.eC (.int 1)))) (Dn.gName 5) Dn.tYesF (Dn.e1 Dn.negD (Dn.eCall Dg.L_between (Dn.aCons (Dn.eVar 0) (Dn.aCons (Dn.eVar 3) (Dn.aCons (Dn.eVar 5) Dn.aNil))))) [5]))
    (Dn.sSeq (Dn.sSetIx 4 (Dn.e2 Dn.subD (Dn.eVarW 3) (Dn.eC (.int 1))) (Dn.e2 Dn.ixD (Dn.eVarW 1) (Dn.e2 Dn.subD (Dn.eVarW 3) (Dn.eC (.int 1)))))
    (Dn.sAppOwn 2 4)))
theorem row_Lm (c : Int) (ls : List Lk) {p : Int} (hp : p ∈ nums c) : (LI c fun o => - Lbt ls p o).set (px p) (.int (sz ls p)) = (nums c).map fun o => PyData.int (Lm ls p o) := by
  rw [LI_set _ _ hp]
  unfold LI
  refine List.map_congr_left fun o _ => ?_
  show PyData.int (if o = p then sz ls p else - Lbt ls p o) = PyData.int (if p = o then sz ls p else - Lbt ls p o)
  by_cases h : o = p
  · rw [if_pos h, if_pos h.symm]
  · rw [if_neg h, if_neg fun e => h e.symm]
theorem ev_matrix {c : Int} {ls : List Lk} (z : Z c ls) (hc : c ≤ 50) : Dg.L_matrix [encY c ls] = some (.ok (mt (Lm ls) (nums c) (nums c))) := by
  refine runF_ok rfl ?_
  show Dg.b_L_matrix [some (.dat (encY c ls)), none, none, none, none, none] = _
  have h1 := z.c1
  have hlen := nums_small z.toG
  have hn : (nums c).length ≤ 100 := by rw [nums_len]; omega
  obtain ⟨ρ', hf, s3, s4, s5, rfl⟩ := forL_I (g := gName 3) (b := bd_mx) PyData.int (fun pre ρ => ∃ s3 s4 s5, ρ = [some (.dat (encY c ls)), some (.dat (encI c (sz ls))), some (.own (pre.map (rw_ (Lm ls) (nums c)))), s3, s4, s5]) (nums c) [] [some (.dat (encY c ls)), some (.dat (encI c (sz ls))), some (.own []), none, none, none] ⟨none, none, none, rfl⟩ (by
    rintro pr x po ρ hp ⟨s3, s4, s5, rfl⟩
    rw [List.nil_append] at hp
    have hpl : pr.length < (nums c).length := by
      rw [hp, List.length_append, List.length_cons]
      omega
    have hx : x ∈ nums c := by
      rw [hp]
      exact List.mem_append_right _ List.mem_cons_self
    refine ⟨_, _, rfl, ?_, some (.dat (.int x)), some (.dat (rw_ (Lm ls) (nums c) x)), s5, by rw [List.map_append]⟩
    unfold bd_mx
    rw [seq_nx (ρ' := [some (.dat (encY c ls)), some (.dat (encI c (sz ls))), some (.own (pr.map (rw_ (Lm ls) (nums c)))), some (.dat (.int x)), some (.own (LI c fun o => - Lbt ls x o)), s5]) (by
      rw [ev_sOwn, comp_of PyData.int (nums c) (fun o => .int (- Lbt ls x o)) (by simp [encY, rng_nums (c := c) (by omega) (by omega)]) hlen (fun o ho => ⟨_, rfl, by simp [ev_Lbt z.toG, negD]⟩)]
      rfl)]
    rw [seq_nx (ρ' := [some (.dat (encY c ls)), some (.dat (encI c (sz ls))), some (.own (pr.map (rw_ (Lm ls) (nums c)))), some (.dat (.int x)), some (.own ((nums c).map fun o => PyData.int (Lm ls x o))), s5]) (by
      have e : e2 ixD (eVarW 1) (e2 subD (eVarW 3) (eC (.int 1))) [some (.dat (encY c ls)), some (.dat (encI c (sz ls))), some (.own (pr.map (rw_ (Lm ls) (nums c)))), some (.dat (.int x)), some (.own (LI c fun o => - Lbt ls x o)), s5] = some (.ok (.int (sz ls x))) := e2_of rfl (e2_of rfl rfl rfl) (encI_ix (sz ls) hx)
      have e' : e2 subD (eVarW 3) (eC (.int 1)) [some (.dat (encY c ls)), some (.dat (encI c (sz ls))), some (.own (pr.map (rw_ (Lm ls) (nums c)))), some (.dat (.int x)), some (.own (LI c fun o => - Lbt ls x o)), s5] = some (.ok (.int (x - 1))) := e2_of rfl rfl rfl
      unfold sSetIx
      rw [e, bS_ok, e']
      simp only [List.getElem?_cons_succ, List.getElem?_cons_zero, bS_ok, LI_nat _ hx, Option.map_some, row_Lm c ls hx, List.set_cons_succ, List.set_cons_zero])]
    show (if 2 ≠ 4 ∧ (pr.map (rw_ (Lm ls) (nums c))).length < 1000000 then _ else none) = _
    rw [if_pos ⟨by decide, by rw [List.length_map]; omega⟩]
    rfl)
  unfold Dg.b_L_matrix
  rw [seq_nx (ρ' := [some (.dat (encY c ls)), some (.dat (encI c (sz ls))), none, none, none, none]) (by simp [ev_Lsizes z hc])]
  rw [seq_nx (ρ' := [some (.dat (encY c ls)), some (.dat (encI c (sz ls))), some (.own []), none, none, none]) (by simp)]
  rw [seq_nx (by
    rw [ev_sFor]
    simp only [ev_iRng2, ev_c, ev_e2, ev_varW, List.getElem?_cons_zero, ev_ret, bnd_ok]
    simp only [encY, ev_ix0, lft_some, bnd_ok, ev_addI, rng_nums (c := c) (by omega) (by omega), bS_ok]
    exact hf)]
  rfl
theorem ev_detM {c : Int} {ls : List Lk} (z : Z c ls) (hc : c ≤ 5) : Dg.L_measure 6 [mt (Lm ls) (nums c) (nums c)] = some (.ok (.int (det c ls))) := by
  have h1 := z.c1
  exact ev_measure (Lm ls) 6 (nums c) (nums c) (by rw [nums_len]; omega) (by rw [nums_len]; omega) rfl fun r _ o _ => Lm_bd z r o
end Pe

set_option maxHeartbeats 4400000
namespace Pe
open Dn
open PySem (PyData)
/-! ### trees -/
/-- all choices of k links, in their order -/
def ch : Nat → List Lk → List (List Lk)
  | 0, _ => [[]]
  | _ + 1, [] => []
  | k + 1, x :: l => (ch k l).map (x :: ·) ++ ch (k + 1) l
/-- the sum over all parts of the links -/
def SS : (List Lk → Int) → List Lk → Int
  | F, [] => F []
  | F, x :: l => SS F l + SS (fun s => F (x :: s)) l
theorem SS_congr : ∀ {l : List Lk} {F G : List Lk → Int}, (∀ s, (∀ x ∈ s, x ∈ l) → F s = G s) → SS F l = SS G l
  | [], F, G, h => h [] (fun x hx => by cases hx)
  | x :: l, F, G, h => by
    unfold SS
    rw [SS_congr (l := l) fun s hs => h s fun y hy => List.mem_cons_of_mem _ (hs y hy), SS_congr (l := l) (F := fun s => F (x :: s)) (G := fun s => G (x :: s)) fun s hs => h (x :: s) fun y hy => by
      rcases List.mem_cons.mp hy with rfl | hy
      · exact List.mem_cons_self
      · exact List.mem_cons_of_mem _ (hs y hy)]
theorem SS_0 : ∀ l : List Lk, SS (fun _ => 0) l = 0
  | [] => rfl
  | x :: l => by
    unfold SS
    rw [SS_0 l]
    rfl
theorem SS_mul (w : Int) : ∀ (l : List Lk) (F : List Lk → Int), SS (fun s => w * F s) l = w * SS F l
  | [], F => rfl
  | x :: l, F => by
    unfold SS
    rw [SS_mul w l F, SS_mul w l fun s => F (x :: s), Int.mul_add]
theorem SS_mid (e : Lk) (l2 : List Lk) : ∀ (l1 : List Lk) (F : List Lk → Int), (∀ s t : List Lk, s.Perm t → F s = F t) → SS F (l1 ++ e :: l2) = SS F (l1 ++ l2) + SS (fun s => F (e :: s)) (l1 ++ l2)
  | [], F, _ => rfl
  | x :: l1, F, h => by
    rw [List.cons_append, List.cons_append]
    unfold SS
    rw [SS_mid e l2 l1 F h, SS_mid e l2 l1 (fun s => F (x :: s)) fun s t k => h _ _ (k.cons x)]
    have : (fun s => F (x :: e :: s)) = fun s => F (e :: x :: s) := funext fun s => h _ _ (List.Perm.swap ..)
    rw [this]
    show _ = SS F (l1 ++ l2) + SS (fun s => F (x :: s)) (l1 ++ l2) + (SS (fun s => F (e :: s)) (l1 ++ l2) + SS (fun s => F (e :: x :: s)) (l1 ++ l2))
    omega
theorem SS_nil : ∀ (l : List Lk) (F : List Lk → Int), (∀ x s, F (x :: s) = 0) → SS F l = F []
  | [], F, _ => rfl
  | x :: l, F, h => by
    unfold SS
    rw [SS_nil l F h, show (fun s => F (x :: s)) = fun _ => 0 from funext fun s => h x s, SS_0]
    omega
theorem sum_ch : ∀ (l : List Lk) (k : Nat) (F : List Lk → Int), ((ch k l).map F).sum = SS (fun s => if s.length = k then F s else 0) l
  | [], 0, F => by simp [ch, SS]
  | [], k + 1, F => by simp [ch, SS]
  | x :: l, 0, F => by
    unfold SS
    rw [← sum_ch l 0 F, show (fun s : List Lk => if (x :: s).length = 0 then F (x :: s) else 0) = fun _ => 0 from funext fun s => if_neg (by simp), SS_0]
    cases l <;> simp [ch]
  | x :: l, k + 1, F => by
    unfold SS
    rw [← sum_ch l (k + 1) F]
    have e : (fun s : List Lk => if (x :: s).length = k + 1 then F (x :: s) else 0) = fun s => if s.length = k then F (x :: s) else 0 := funext fun s => by
      rw [List.length_cons]
      by_cases h : s.length = k
      · rw [if_pos h, if_pos (by omega)]
      · rw [if_neg h, if_neg (by omega)]
    rw [e, ← sum_ch l k fun s => F (x :: s)]
    show (((ch k l).map (x :: ·) ++ ch (k + 1) l).map F).sum = _
    rw [List.map_append, List.sum_append, List.map_map]
    have : (F ∘ fun s => x :: s) = fun s => F (x :: s) := rfl
    rw [this]
    omega
theorem ch_len : ∀ (l : List Lk) (k : Nat), (ch k l).length ≤ 2 ^ l.length
  | [], 0 => by simp [ch]
  | [], k + 1 => by simp [ch]
  | x :: l, 0 => by simp [ch]; exact Nat.one_le_two_pow
  | x :: l, k + 1 => by
    have h1 := ch_len l k
    have h2 := ch_len l (k + 1)
    show ((ch k l).map (x :: ·) ++ ch (k + 1) l).length ≤ _
    rw [List.length_append, List.length_map, List.length_cons, Nat.pow_succ]
    omega
theorem ch_mem : ∀ (l : List Lk) (k : Nat) (s : List Lk), s ∈ ch k l → s.length = k ∧ ∀ x ∈ s, x ∈ l
  | l, 0, s, h => by
    have : s = [] := by
      cases l <;> simpa [ch] using h
    subst this
    exact ⟨rfl, fun x hx => by cases hx⟩
  | [], k + 1, s, h => by simp [ch] at h
  | x :: l, k + 1, s, h => by
    rcases List.mem_append.mp (show s ∈ (ch k l).map (x :: ·) ++ ch (k + 1) l from h) with h | h
    · obtain ⟨t, ht, rfl⟩ := List.mem_map.mp h
      obtain ⟨h1, h2⟩ := ch_mem l k t ht
      refine ⟨by rw [List.length_cons, h1], fun y hy => ?_⟩
      rcases List.mem_cons.mp hy with rfl | hy
      · exact List.mem_cons_self
      · exact List.mem_cons_of_mem _ (h2 y hy)
    · obtain ⟨h1, h2⟩ := ch_mem l (k + 1) s h
      exact ⟨h1, fun y hy => List.mem_cons_of_mem _ (h2 y hy)⟩
/-- in how many ways links can be taken -/
def pw : List Lk → Int
  | [] => 1
  | l :: s => l.2.2 * pw s
theorem pw_perm {s t : List Lk} (h : s.Perm t) : pw s = pw t := by
  induction h with
  | nil => rfl
  | cons x _ ih => unfold pw; rw [ih]
  | swap x y l => unfold pw; unfold pw; grind
  | trans _ _ a b => rw [a, b]
open Classical in
noncomputable def tw (U : List Int) (s : List Lk) : Int := if s.length = U.length ∧ Conn s U then pw s else 0
noncomputable def TX (ls : List Lk) (U : List Int) : Int := SS (tw U) ls
theorem conn_perm {s t : List Lk} (h : s.Perm t) {U : List Int} : Conn s U ↔ Conn t U := by
  unfold Conn
  simp only [h.mem_iff]
theorem tw_perm (U : List Int) (s t : List Lk) (h : s.Perm t) : tw U s = tw U t := by
  unfold tw
  have h2 : (s.length = U.length ∧ Conn s U) ↔ (t.length = U.length ∧ Conn t U) := by rw [h.length_eq, conn_perm h]
  by_cases k : s.length = U.length ∧ Conn s U
  · rw [if_pos k, if_pos (h2.mp k), pw_perm h]
  · rw [if_neg k, if_neg fun q => k (h2.mpr q)]
theorem cut_T : Cut TX := by
  refine ⟨fun ls => ?_, fun ls U w d e h => ?_, fun l1 e l2 pre u post w d he => ?_⟩
  · unfold TX
    rw [SS_nil ls (tw []) fun x s => if_neg fun h => by simp at h]
    unfold tw
    rw [if_pos ⟨rfl, fun P ⟨p, hp, _⟩ => by cases hp⟩]
    rfl
  · unfold TX
    have hz : SS (tw U) ls = SS (fun _ => 0) ls := SS_congr fun s hs => if_neg ?_
    · rw [hz, SS_0]
    rintro ⟨_, hc⟩
    obtain ⟨p, hp⟩ := List.exists_mem_of_ne_nil _ e
    obtain ⟨l, hl, hn⟩ := hc (fun p => decide (p ∈ U)) ⟨p, hp, decide_eq_true hp⟩ fun p h => of_decide_eq_true h
    exact absurd (by rw [Bool.eq_iff_iff, decide_eq_true_eq, decide_eq_true_eq]; exact h l (hs l hl)) hn
  · unfold TX
    rw [SS_mid e l2 l1 _ (tw_perm _), ← SS_mul]
    congr 1
    refine SS_congr fun s _ => ?_
    unfold tw
    have h2 : ((e :: s).length = (pre ++ u :: post).length ∧ Conn (e :: s) (pre ++ u :: post)) ↔ (s.length = (pre ++ post).length ∧ Conn s (pre ++ post)) := by
      rw [conn_cut d he, List.length_cons, List.length_append, List.length_cons, List.length_append]
      exact ⟨fun ⟨a, b⟩ => ⟨by omega, b⟩, fun ⟨a, b⟩ => ⟨by omega, b⟩⟩
    by_cases k : s.length = (pre ++ post).length ∧ Conn s (pre ++ post)
    · rw [if_pos (h2.mpr k), if_pos k]
      rfl
    · rw [if_neg (fun q => k (h2.mp q)), if_neg k, Int.mul_zero]
open Classical in
/-- the matrix-tree theorem -/
theorem trees_det {ls : List Lk} (w : LW ls) {U : List Int} (d : U.Nodup) : (((ch U.length ls).filter fun s => decide (Conn s U)).map pw).sum = DX ls U := by
  rw [← cut_T.uniq cut_D _ ls U rfl w d]
  have e : (((ch U.length ls).filter fun s => decide (Conn s U)).map pw).sum = ((ch U.length ls).map fun s => if Conn s U then pw s else 0).sum := by
    induction ch U.length ls with
    | nil => rfl
    | cons s L ih =>
      by_cases k : Conn s U
      · rw [List.filter_cons_of_pos (by simpa using k), List.map_cons, List.map_cons, List.sum_cons, List.sum_cons, ih, if_pos k]
      · rw [List.filter_cons_of_neg (by simpa using k), List.map_cons, List.sum_cons, ih, if_neg k, Int.zero_add]
  rw [e, sum_ch]
  unfold TX
  refine SS_congr fun s _ => ?_
  unfold tw
  by_cases a : s.length = U.length <;> by_cases b : Conn s U <;> simp [a, b]
end Pe

set_option maxHeartbeats 4400000
namespace Pe
open Dn
open PySem (PyData)
/-! ### sorting trees -/
section
variable {α : Type} [DecidableEq α] [PySem.W.DatumOrd α]
def leD_ (a b : D) : Bool := !PySem.W.dataLt b a
theorem leD_trans (a b c : D) (h1 : leD_ a b = true) (h2 : leD_ b c = true) : leD_ a c = true := by
  unfold leD_ at *
  rw [Bool.not_eq_true'] at *
  cases h : PySem.W.dataLt c a with
  | false => rfl
  | true =>
    rcases PyProof.Rows.lex_negTrans _ (PySem.W.keyToks b) _ h with h | h
    · exact absurd h (by rw [show PyProof.Rows.lexLt PyProof.Rows.itemOrd (PySem.W.keyToks c) (PySem.W.keyToks b) = false from h2]; decide)
    · exact absurd h (by rw [show PyProof.Rows.lexLt PyProof.Rows.itemOrd (PySem.W.keyToks b) (PySem.W.keyToks a) = false from h1]; decide)
theorem leD_total (a b : D) : (leD_ a b || leD_ b a) = true := by
  unfold leD_
  cases h : PySem.W.dataLt b a with
  | false => rfl
  | true =>
    cases h2 : PySem.W.dataLt a b with
    | false => rfl
    | true =>
      have h3 := PyProof.Rows.lex_trans _ _ _ h h2
      rw [PyProof.Rows.lex_irrefl] at h3
      cases h3
theorem leD_anti (a b : α) (h1 : leD_ (PySem.W.Datum.toD a) (PySem.W.Datum.toD b) = true) (h2 : leD_ (PySem.W.Datum.toD b) (PySem.W.Datum.toD a) = true) : (PySem.W.Datum.toD a) = (PySem.W.Datum.toD b) := by
  unfold leD_ at *
  rw [Bool.not_eq_true'] at *
  have hk : PySem.W.keyToks (PySem.W.Datum.toD a) = PySem.W.keyToks (PySem.W.Datum.toD b) := PyProof.Rows.lex_total _ _ h2 h1
  have hal := PySem.W.DatumOrd.alike a b
  have hq := PySem.W.toks_eqv (PySem.W.Datum.toD a) (PySem.W.Datum.toD b) hal
  cases he : PyData.eqv (PySem.W.Datum.toD a) (PySem.W.Datum.toD b) with
  | true =>
    rw [PySem.W.Datum.eqv, decide_eq_true_eq] at he
    rw [he]
  | false =>
    have h3 := hq.2 he [] [Sum.inl 0]
    rw [hk, PyProof.Rows.lex_irrefl, PySem.W.lex_pre] at h3
    cases h3
theorem sort_perm {xs ys : List α} (h : xs.Perm ys) : sortL (xs.map PySem.W.Datum.toD) = sortL (ys.map PySem.W.Datum.toD) := by
  have p1 : (sortL (xs.map PySem.W.Datum.toD)).Perm (xs.map PySem.W.Datum.toD) := List.mergeSort_perm _ _
  have p2 : (sortL (ys.map PySem.W.Datum.toD)).Perm (ys.map PySem.W.Datum.toD) := List.mergeSort_perm _ _
  refine List.Perm.eq_of_pairwise (le := fun a b => leD_ a b = true) (fun a b ha hb h1 h2 => ?_) (List.pairwise_mergeSort leD_trans leD_total _) (List.pairwise_mergeSort leD_trans leD_total _) ((p1.trans (h.map _)).trans p2.symm)
  obtain ⟨a, _, rfl⟩ := List.mem_map.mp (p1.mem_iff.mp ha)
  obtain ⟨b, _, rfl⟩ := List.mem_map.mp (p2.mem_iff.mp hb)
  exact leD_anti a b h1 h2
theorem sort_map (xs : List α) : ∃ zs : List α, sortL (xs.map PySem.W.Datum.toD) = zs.map PySem.W.Datum.toD ∧ zs.Perm xs := by
  have p1 : (sortL (xs.map PySem.W.Datum.toD)).Perm (xs.map PySem.W.Datum.toD) := List.mergeSort_perm _ _
  have hex : ∀ L : List D, (∀ d ∈ L, ∃ a : α, d = PySem.W.Datum.toD a) → ∃ zs : List α, L = zs.map PySem.W.Datum.toD := fun L => by
    induction L with
    | nil => intro _; exact ⟨[], rfl⟩
    | cons d L ih =>
      intro h
      obtain ⟨a, ha⟩ := h d List.mem_cons_self
      obtain ⟨zs, hz⟩ := ih fun x hx => h x (List.mem_cons_of_mem _ hx)
      exact ⟨a :: zs, by rw [ha, hz]; rfl⟩
  obtain ⟨zs, hz⟩ := hex _ fun d hd => by
    obtain ⟨a, _, rfl⟩ := List.mem_map.mp (p1.mem_iff.mp hd)
    exact ⟨a, rfl⟩
  refine ⟨zs, hz, ?_⟩
  rw [hz] at p1
  have inj : ∀ a b : α, PySem.W.Datum.toD a = PySem.W.Datum.toD b → a = b := fun a b e => by
    have h := PySem.W.Datum.eqv a b
    rw [e, PySem.W.Datum.eqv, decide_eq_true rfl] at h
    exact of_decide_eq_true h.symm
  let dec : D → List α := fun d => open Classical in if h : ∃ a : α, d = PySem.W.Datum.toD a then [h.choose] else []
  have hd : ∀ a : α, dec (PySem.W.Datum.toD a) = [a] := fun a => by
    have hx : ∃ b : α, (PySem.W.Datum.toD a : D) = PySem.W.Datum.toD b := ⟨a, rfl⟩
    show (open Classical in if h : ∃ b : α, (PySem.W.Datum.toD a : D) = PySem.W.Datum.toD b then [h.choose] else []) = [a]
    rw [dif_pos hx]
    have := inj _ _ hx.choose_spec
    rw [← this]
  have hm : ∀ L : List α, (L.map PySem.W.Datum.toD).flatMap dec = L := fun L => by
    induction L with
    | nil => rfl
    | cons x L ih =>
      rw [List.map_cons, List.flatMap_cons, ih, hd]
      rfl
  have h2 := p1.flatMap_right dec
  rw [hm, hm] at h2
  exact h2
end
end Pe

set_option maxHeartbeats 4400000
namespace Pe
open Dn
open PySem (PyData)
/-! ### what links lead to -/
def st1 (met : List Int) (l : Lk) : List Int := if decide (l.1 ∈ met) ≠ decide (l.2.1 ∈ met) then met ++ [if l.2.1 ∈ met then l.1 else l.2.1] else met
def ps (s : List Lk) (met : List Int) : List Int := s.foldl st1 met
def itn (s : List Lk) : Nat → List Int → List Int
  | 0, M => M
  | n + 1, M => itn s n (ps s M)
structure Gd (c : Int) (s : List Lk) (M : List Int) : Prop where
  z0 : 0 ∈ M
  nd : M.Nodup
  rng : ∀ x ∈ M, 0 ≤ x ∧ x ≤ c
  rch : ∀ P : Int → Bool, P 0 = false → (∀ l ∈ s, P l.1 = P l.2.1) → ∀ x ∈ M, P x = false
def Cl (s : List Lk) (M : List Int) : Prop := ∀ l ∈ s, (l.1 ∈ M ↔ l.2.1 ∈ M)
def LR (c : Int) (s : List Lk) : Prop := ∀ l ∈ s, 0 ≤ l.1 ∧ l.1 < l.2.1 ∧ l.2.1 ≤ c
theorem Gd.st1 {c : Int} {s : List Lk} {M : List Int} (g : Gd c s M) (r : LR c s) {l : Lk} (hl : l ∈ s) : Gd c s (st1 M l) := by
  unfold Pe.st1
  have hr := r l hl
  split
  · rename_i h
    have hx : ∃ x y, (if l.2.1 ∈ M then l.1 else l.2.1) = x ∧ x ∉ M ∧ y ∈ M ∧ 0 ≤ x ∧ x ≤ c ∧ (∀ P : Int → Bool, P l.1 = P l.2.1 → P x = P y) := by
      by_cases h2 : l.2.1 ∈ M
      · refine ⟨l.1, l.2.1, if_pos h2, fun h1 => h (by simp [h1, h2]), h2, hr.1, by omega, fun P h => h⟩
      · have h1 : l.1 ∈ M := by
          by_cases h1 : l.1 ∈ M
          · exact h1
          · exact absurd (by simp [h1, h2]) h
        exact ⟨l.2.1, l.1, if_neg h2, h2, h1, by omega, hr.2.2, fun P h => h.symm⟩
    obtain ⟨x, y, e, hx, hy, b1, b2, hP⟩ := hx
    rw [e]
    refine ⟨List.mem_append_left _ g.z0, ?_, fun z hz => ?_, fun P h0 hs z hz => ?_⟩
    · rw [List.nodup_append]
      refine ⟨g.nd, by simp, fun a ha b hb => ?_⟩
      rw [List.mem_singleton.mp hb]
      intro e
      exact hx (e ▸ ha)
    · rcases List.mem_append.mp hz with hz | hz
      · exact g.rng z hz
      · rw [List.mem_singleton.mp hz]
        exact ⟨b1, b2⟩
    · rcases List.mem_append.mp hz with hz | hz
      · exact g.rch P h0 hs z hz
      · rw [List.mem_singleton.mp hz, hP P (hs l hl)]
        exact g.rch P h0 hs y hy
  · exact g
theorem Gd.ps {c : Int} {s : List Lk} (r : LR c s) : ∀ (t : List Lk) {M : List Int}, (∀ l ∈ t, l ∈ s) → Gd c s M → Gd c s (ps t M)
  | [], M, _, g => g
  | l :: t, M, h, g => Gd.ps r t (fun x hx => h x (List.mem_cons_of_mem _ hx)) (g.st1 r (h l List.mem_cons_self))
theorem st1_len (M : List Int) (l : Lk) : (st1 M l = M ∧ (l.1 ∈ M ↔ l.2.1 ∈ M)) ∨ (st1 M l).length = M.length + 1 := by
  unfold st1
  by_cases h : decide (l.1 ∈ M) = decide (l.2.1 ∈ M)
  · left
    rw [if_neg (fun k => k h)]
    rw [Bool.eq_iff_iff, decide_eq_true_eq, decide_eq_true_eq] at h
    exact ⟨rfl, h⟩
  · right
    rw [if_pos h, List.length_append, List.length_singleton]
theorem ps_len : ∀ (s : List Lk) (M : List Int), (ps s M = M ∧ Cl s M) ∨ M.length + 1 ≤ (ps s M).length
  | [], M => .inl ⟨rfl, fun l hl => by cases hl⟩
  | l :: s, M => by
    show (ps s (st1 M l) = M ∧ Cl (l :: s) M) ∨ M.length + 1 ≤ (ps s (st1 M l)).length
    rcases st1_len M l with ⟨h1, h2⟩ | h1
    · rw [h1]
      rcases ps_len s M with ⟨h3, h4⟩ | h3
      · refine .inl ⟨h3, fun m hm => ?_⟩
        rcases List.mem_cons.mp hm with rfl | hm
        · exact h2
        · exact h4 m hm
      · exact .inr h3
    · rcases ps_len s (st1 M l) with ⟨h3, _⟩ | h3
      · right
        rw [h3]
        omega
      · right
        omega
theorem ps_cl {s : List Lk} {M : List Int} (h : Cl s M) : ps s M = M := by
  have : ∀ t : List Lk, (∀ l ∈ t, l ∈ s) → ps t M = M := fun t => by
    induction t with
    | nil => intro _; rfl
    | cons l t ih =>
      intro ht
      have e : st1 M l = M := by
        unfold st1
        rw [if_neg]
        intro k
        apply k
        rw [Bool.eq_iff_iff, decide_eq_true_eq, decide_eq_true_eq]
        exact h l (ht l List.mem_cons_self)
      show ps t (st1 M l) = M
      rw [e]
      exact ih fun x hx => ht x (List.mem_cons_of_mem _ hx)
  exact this s fun _ h => h
theorem itn_cl {s : List Lk} {M : List Int} (h : Cl s M) : ∀ n, itn s n M = M
  | 0 => rfl
  | n + 1 => by
    show itn s n (ps s M) = M
    rw [ps_cl h]
    exact itn_cl h n
theorem itn_or (s : List Lk) : ∀ (n : Nat) (M : List Int), Cl s (itn s n M) ∨ M.length + n ≤ (itn s n M).length
  | 0, M => .inr (Nat.le_refl _)
  | n + 1, M => by
    show Cl s (itn s n (ps s M)) ∨ M.length + (n + 1) ≤ (itn s n (ps s M)).length
    rcases ps_len s M with ⟨h1, h2⟩ | h1
    · left
      rw [h1, itn_cl h2]
      exact h2
    · rcases itn_or s n (ps s M) with h | h
      · exact .inl h
      · right
        omega
theorem Gd.itn {c : Int} {s : List Lk} (r : LR c s) : ∀ (n : Nat) {M : List Int}, Gd c s M → Gd c s (itn s n M)
  | 0, _, g => g
  | n + 1, M, g => Gd.itn r n (g.ps r s (fun _ h => h))
theorem Gd.zero (c : Int) (s : List Lk) (h : 0 ≤ c) : Gd c s [0] := by
  refine ⟨by simp, by simp, fun x hx => ?_, fun P h0 _ x hx => ?_⟩
  · rw [List.mem_singleton.mp hx]
    omega
  · rw [List.mem_singleton.mp hx]
    exact h0
theorem Gd.sub {c : Int} {s : List Lk} {M : List Int} (g : Gd c s M) : ∀ x ∈ M, x ∈ 0 :: nums c := fun x hx => by
  have := g.rng x hx
  by_cases h : x = 0
  · rw [h]
    exact List.mem_cons_self
  · exact List.mem_cons_of_mem _ (mem_nums.mpr ⟨by omega, this.2⟩)
theorem zn_nodup (c : Int) : (0 :: nums c).Nodup := List.nodup_cons.mpr ⟨fun h => by have := mem_nums.mp h; omega, nums_nodup c⟩
theorem Gd.le {c : Int} {s : List Lk} {M : List Int} (h : 0 ≤ c) (g : Gd c s M) : M.length ≤ c.toNat + 1 := by
  have := g.nd.length_le_of_subset g.sub
  rw [List.length_cons, nums_len] at this
  exact this
theorem Gd.full {c : Int} {s : List Lk} {M : List Int} (h : 0 ≤ c) (g : Gd c s M) : M.length = c.toNat + 1 ↔ ∀ p ∈ nums c, p ∈ M := by
  constructor
  · intro hl p hp
    by_cases hm : p ∈ M
    · exact hm
    · exfalso
      have hn : (p :: M).Nodup := List.nodup_cons.mpr ⟨hm, g.nd⟩
      have := hn.length_le_of_subset (l₂ := 0 :: nums c) fun x hx => by
        rcases List.mem_cons.mp hx with rfl | hx
        · exact List.mem_cons_of_mem _ hp
        · exact g.sub x hx
      rw [List.length_cons, List.length_cons, nums_len] at this
      omega
  · intro hf
    have h1 := (zn_nodup c).length_le_of_subset (l₂ := M) fun x hx => by
      rcases List.mem_cons.mp hx with rfl | hx
      · exact g.z0
      · exact hf x hx
    rw [List.length_cons, nums_len] at h1
    have := g.le h
    omega
theorem Gd.conn {c : Int} {s : List Lk} {M : List Int} (h : 0 ≤ c) (r : LR c s) (g : Gd c s M) (cl : Cl s M ∨ c.toNat + 1 ≤ M.length) : M.length = c.toNat + 1 ↔ Conn s (nums c) := by
  rw [g.full h]
  constructor
  · intro hf P ⟨p, hp, q⟩ hP
    by_cases hx : ∃ l ∈ s, P l.1 ≠ P l.2.1
    · exact hx
    · exfalso
      have h0 : P 0 = false := by
        cases k : P 0 with
        | false => rfl
        | true =>
          have := mem_nums.mp (hP 0 k)
          omega
      have := g.rch P h0 (fun l hl => by
        by_cases k : P l.1 = P l.2.1
        · exact k
        · exact absurd ⟨l, hl, k⟩ hx) p (hf p hp)
      rw [q] at this
      cases this
  · intro hc p hp
    by_cases hm : p ∈ M
    · exact hm
    · exfalso
      rcases cl with cl | cl
      · obtain ⟨l, hl, hn⟩ := hc (fun x => decide (x ∈ nums c ∧ x ∉ M)) ⟨p, hp, decide_eq_true ⟨hp, hm⟩⟩ fun x hx => (of_decide_eq_true hx).1
        apply hn
        have hr := r l hl
        have hz := g.z0
        have e : ∀ x, 0 ≤ x → x ≤ c → (decide (x ∈ nums c ∧ x ∉ M) = !decide (x ∈ M)) := fun x a b => by
          by_cases k : x ∈ M
          · simp [k]
          · have : x ∈ nums c := mem_nums.mpr ⟨by
              by_cases e : x = 0
              · rw [e] at k
                exact absurd hz k
              · omega, b⟩
            simp [k, this]
        show decide (l.1 ∈ nums c ∧ l.1 ∉ M) = decide (l.2.1 ∈ nums c ∧ l.2.1 ∉ M)
        rw [e l.1 (by omega) (by omega), e l.2.1 (by omega) (by omega)]
        congr 1
        rw [Bool.eq_iff_iff, decide_eq_true_eq, decide_eq_true_eq]
        exact cl l hl
      · have := g.le h
        exact hm ((g.full h).mp (by omega) p hp)
end Pe

set_option maxHeartbeats 4400000
namespace Pe
open Dn
open PySem (PyData)
/-! ### the program's trees, walked -/
theorem inIs' (p : Int) (L : List Int) : inD (.int p) (.list (L.map .int)) = some (.bool (decide (p ∈ L))) := by
  have h1 : PyData.plainAll (L.map .int) = true := plainG L
  have h2 : okD (.int p) = true := by
    unfold okD
    simp [PyData.plain, PyData.depth]
  show (if (PyData.plainAll (L.map .int) && okD (.int p)) = true then some (PyData.bool ((L.map PyData.int).any fun y => PyData.eqv y (.int p))) else none) = _
  rw [h1, h2, if_pos (by decide)]
  congr 2
  rw [Bool.eq_iff_iff, List.any_eq_true, decide_eq_true_eq]
  constructor
  · rintro ⟨y, hy, e⟩
    obtain ⟨a, ha, rfl⟩ := List.mem_map.mp hy
    simp [PyData.eqv] at e
    rw [← e]
    exact ha
  · intro h
    exact ⟨.int p, List.mem_map.mpr ⟨p, h, rfl⟩, by simp [PyData.eqv]⟩
theorem boolNe' (a b : Bool) : neD (.bool a) (.bool b) = some (.bool (a != b)) := by
  cases a <;> cases b <;> rfl
def msD (M : List Int) : List D := M.map .int
noncomputable def bd_ct : SF := (Dn.sIf (Dn.asB (Dn.e2 Dn.neD (Dn.e2 Dn.inD (Dn.eVarW 3) (Dn.eVarW 1)) (Dn.e2 Dn.inD (Dn.eVarW 4) (Dn.eVarW 1)))) (Dn.sSeq (Dn.sApp 1 (Dn.e2 Dn.subD (Dn.e2 Dn.addD (Dn.eVarW 3) (Dn.eVarW 4)) (Dn.e2 Dn.ixD (Dn.eLst (Dn.aCons (Dn.eVar 3) (Dn.aCons (Dn.eVar 4) Dn.aNil))) (Dn.e1 Dn.intD (Dn.e2 Dn.inD (Dn.eVarW 4) (Dn.eVarW 1))))))
    (Dn.sAsg (Dn.gName 2) (Dn.eC (.bool true)))) Dn.sNx)
theorem ix2_0 (a b : D) : ixD (.list [a, b]) (.int 0) = some a := rfl
theorem ix2_1 (a b : D) : ixD (.list [a, b]) (.int 1) = some b := rfl
theorem st_ct (y : Option Sl) (M : List Int) (b : Bool) (l : Lk) (s5 : Option Sl) (hM : M.length ≤ 1000) : ∃ b', bd_ct [y, some (.own (msD M)), some (.dat (.bool b)), some (.dat (.int l.1)), some (.dat (.int l.2.1)), s5] = some (.nx [y, some (.own (msD (st1 M l))), some (.dat (.bool b')), some (.dat (.int l.1)), some (.dat (.int l.2.1)), s5]) ∧ (b' = true ↔ (b = true ∨ (st1 M l).length ≠ M.length)) := by
  have i1 := inIs' l.1 M
  have i2 := inIs' l.2.1 M
  have hlt : (msD M).length < 1000000 := by
    unfold msD
    rw [List.length_map]
    omega
  by_cases h : decide (l.1 ∈ M) = decide (l.2.1 ∈ M)
  · refine ⟨b, ?_, ?_⟩
    · unfold bd_ct
      have e : st1 M l = M := if_neg fun k => k h
      rw [e]
      simp [msD, i1, i2, boolNe', h]
    · rw [show st1 M l = M from if_neg fun k => k h]
      simp
  · refine ⟨true, ?_, ?_⟩
    · have e : st1 M l = M ++ [if l.2.1 ∈ M then l.1 else l.2.1] := if_pos h
      have q2 : msD (st1 M l) = msD M ++ [.int (if l.2.1 ∈ M then l.1 else l.2.1)] := by
        rw [e]
        unfold msD
        rw [List.map_append]
        rfl
      have et : asB (e2 neD (Dn.e2 Dn.inD (Dn.eVarW 3) (Dn.eVarW 1)) (Dn.e2 Dn.inD (Dn.eVarW 4) (Dn.eVarW 1))) [y, some (.own (msD M)), some (.dat (.bool b)), some (.dat (.int l.1)), some (.dat (.int l.2.1)), s5] = some (.ok true) := by
        simp [msD, i1, i2, boolNe']
        first
        | done
        | simpa using h
      have ev : Dn.e2 Dn.subD (Dn.e2 Dn.addD (Dn.eVarW 3) (Dn.eVarW 4)) (Dn.e2 Dn.ixD (Dn.eLst (Dn.aCons (Dn.eVar 3) (Dn.aCons (Dn.eVar 4) Dn.aNil))) (Dn.e1 Dn.intD (Dn.e2 Dn.inD (Dn.eVarW 4) (Dn.eVarW 1)))) [y, some (.own (msD M)), some (.dat (.bool b)), some (.dat (.int l.1)), some (.dat (.int l.2.1)), s5] = some (.ok (.int (if l.2.1 ∈ M then l.1 else l.2.1))) := by
        by_cases h2 : l.2.1 ∈ M
        · simp [msD, i2, h2, intD, ix2_1]
          first
          | done
          | omega
        · simp [msD, i2, h2, intD, ix2_0]
          first
          | done
          | omega
      unfold bd_ct
      rw [ev_sIf, et, bS_ok, if_pos rfl]
      rw [seq_nx (ρ' := [y, some (.own (msD (st1 M l))), some (.dat (.bool b)), some (.dat (.int l.1)), some (.dat (.int l.2.1)), s5]) (by
        rw [ev_sApp]
        simp only [List.getElem?_cons_succ, List.getElem?_cons_zero]
        rw [ev, bS_ok, if_pos hlt, q2]
        rfl)]
      rfl
    · have e : st1 M l = M ++ [if l.2.1 ∈ M then l.1 else l.2.1] := if_pos h
      rw [e, List.length_append, List.length_singleton]
      simp
noncomputable def bd_cw : SF := (Dn.sSeq (Dn.sAsg (Dn.gName 2) (Dn.eC (.bool false)))
    (Dn.sFor (Dn.iSeq (Dn.eVar 0)) (Dn.gTup [3, 4, 5]) bd_ct))
theorem ps_app (t : List Lk) (M : List Int) (x : Lk) : ps (t ++ [x]) M = st1 (ps t M) x := by
  unfold ps
  rw [List.foldl_append]
  rfl
theorem ps_ge (t : List Lk) (M : List Int) : M.length ≤ (ps t M).length := by
  rcases ps_len t M with ⟨h, _⟩ | h
  · rw [h]
    exact Nat.le_refl _
  · omega
theorem st_cw {c : Int} {s : List Lk} (r : LR c s) (h0 : 0 ≤ c) (hc : c ≤ 100) {M : List Int} (g : Gd c s M) (b : Bool) (s3 s4 s5 : Option Sl) : ∃ b' s3' s4' s5', bd_cw [some (.dat (encLs s)), some (.own (msD M)), some (.dat (.bool b)), s3, s4, s5] = some (.nx [some (.dat (encLs s)), some (.own (msD (ps s M))), some (.dat (.bool b')), s3', s4', s5']) ∧ (b' = true ↔ (ps s M).length ≠ M.length) := by
  obtain ⟨ρ', hf, b', s3', s4', s5', rfl, hb⟩ := forL_I (g := gTup [3, 4, 5]) (b := bd_ct) encL (fun pre ρ => ∃ b s3 s4 s5, ρ = [some (.dat (encLs s)), some (.own (msD (ps pre M))), some (.dat (.bool b)), s3, s4, s5] ∧ (b = true ↔ (ps pre M).length ≠ M.length)) s [] [some (.dat (encLs s)), some (.own (msD M)), some (.dat (.bool false)), s3, s4, s5] ⟨false, s3, s4, s5, rfl, by simp [ps]⟩ (by
    rintro pr x po ρ hp ⟨b, s3, s4, s5, rfl, hb⟩
    rw [List.nil_append] at hp
    have hpre : ∀ l ∈ pr, l ∈ s := fun l hl => by
      rw [hp]
      exact List.mem_append_left _ hl
    have hx : x ∈ s := by
      rw [hp]
      exact List.mem_append_right _ List.mem_cons_self
    have g1 := g.ps r pr hpre
    have hl1 := g1.le h0
    obtain ⟨b', k1, k2⟩ := st_ct (some (.dat (encLs s))) (ps pr M) b x (some (.dat (.int x.2.2))) (by omega)
    refine ⟨_, _, rfl, k1, b', some (.dat (.int x.1)), some (.dat (.int x.2.1)), some (.dat (.int x.2.2)), ?_, ?_⟩
    · rw [ps_app]
    · rw [k2, ps_app, hb]
      have h1 := ps_ge pr M
      rcases st1_len (ps pr M) x with ⟨h2, _⟩ | h2
      · rw [h2]
        simp
      · rw [h2]
        constructor
        · intro _
          omega
        · intro _
          exact .inr (by omega))
  refine ⟨b', s3', s4', s5', ?_, hb⟩
  unfold bd_cw
  rw [seq_nx (ρ' := [some (.dat (encLs s)), some (.own (msD M)), some (.dat (.bool false)), s3, s4, s5]) (by simp)]
  rw [ev_sFor]
  exact hf
theorem lp_cw {c : Int} {s : List Lk} (r : LR c s) (h0 : 0 ≤ c) (hc : c ≤ 100) : ∀ (n : Nat) (M : List Int) (s3 s4 s5 : Option Sl), Gd c s M → c.toNat + 2 ≤ M.length + n → ∃ M' s3' s4' s5' k, Gd c s M' ∧ Cl s M' ∧ whileN k (asB (eVarW 2)) bd_cw [some (.dat (encLs s)), some (.own (msD M)), some (.dat (.bool true)), s3, s4, s5] = some (.nx [some (.dat (encLs s)), some (.own (msD M')), some (.dat (.bool false)), s3', s4', s5'])
  | 0, M, s3, s4, s5, g, h => by
    have := g.le h0
    omega
  | n + 1, M, s3, s4, s5, g, h => by
    obtain ⟨b', s3', s4', s5', h1, h2⟩ := st_cw r h0 hc g true s3 s4 s5
    rcases ps_len s M with ⟨e, cl⟩ | e
    · have hb : b' = false := by
        cases hb : b' with
        | false => rfl
        | true => exact absurd (by rw [e]) (h2.mp hb)
      subst hb
      rw [e] at h1
      refine ⟨M, s3', s4', s5', 2, g, cl, ?_⟩
      unfold whileN
      simp only [ev_asB, ev_varW, List.getElem?_cons_succ, List.getElem?_cons_zero, ev_ret, bnd_ok, ev_boolD, lft_some, bS_ok, if_true]
      rw [h1]
      rfl
    · have hb : b' = true := h2.mpr (by omega)
      subst hb
      obtain ⟨M', t3, t4, t5, k, g', cl, hw⟩ := lp_cw r h0 hc n (ps s M) s3' s4' s5' (g.ps r s fun _ h => h) (by omega)
      refine ⟨M', t3, t4, t5, k + 1, g', cl, ?_⟩
      unfold whileN
      simp only [ev_asB, ev_varW, List.getElem?_cons_succ, List.getElem?_cons_zero, ev_ret, bnd_ok, ev_boolD, lft_some, bS_ok, if_true]
      rw [h1]
      exact hw
theorem ev_come {c : Int} {s : List Lk} (r : LR c s) (h0 : 0 ≤ c) (hc : c ≤ 100) : ∃ M, Gd c s M ∧ Cl s M ∧ Dg.P_come_to [encLs s] = some (.ok (.list (msD M))) := by
  obtain ⟨M, s3, s4, s5, k, g, cl, hw⟩ := lp_cw r h0 hc (c.toNat + 2) [0] none none none (Gd.zero c s h0) (by simp)
  refine ⟨M, g, cl, runF_ok rfl ?_⟩
  show Dg.b_P_come_to [some (.dat (encLs s)), none, none, none, none, none] = _
  unfold Dg.b_P_come_to
  rw [seq_nx (ρ' := [some (.dat (encLs s)), some (.own [.int 0]), none, none, none, none]) (by simp)]
  rw [seq_nx (ρ' := [some (.dat (encLs s)), some (.own [.int 0]), some (.dat (.bool true)), none, none, none]) (by simp)]
  refine (seq_nx (sWhile_of hw)).trans ?_
  rfl
/-! choices -/
def encC (s : List Lk) : D := encLs s
def ixs : Nat → List Lk → List D
  | _, [] => []
  | k, _ :: l => .int k :: ixs (k + 1) l
theorem ixs_eq : ∀ (l : List Lk) (k : Nat), ixs k l = (List.range l.length).map fun i => PyData.int ((k + i : Nat) : Int)
  | [], k => rfl
  | x :: l, k => by
    show PyData.int k :: ixs (k + 1) l = _
    rw [ixs_eq l (k + 1), List.length_cons, List.range_succ_eq_map, List.map_cons, List.map_map]
    congr 1
    refine List.map_congr_left fun i _ => ?_
    show PyData.int ((k + 1 + i : Nat) : Int) = PyData.int ((k + (i + 1) : Nat) : Int)
    rw [Nat.add_assoc, Nat.add_comm 1 i]
theorem rng_ixs (l : List Lk) (h : l.length ≤ 1000) : rangeD (.int 0) (.int l.length) = some (ixs 0 l) := by
  have e : (rgOk 0 && rgOk l.length) = true := by
    simp [rgOk]
    omega
  show (if (rgOk 0 && rgOk l.length) = true then some (rgL 0 l.length) else none) = _
  rw [if_pos e, ixs_eq]
  unfold rgL
  have : ((l.length : Int) - 0).toNat = l.length := by omega
  rw [this]
  refine congrArg some (List.map_congr_left fun i _ => ?_)
  rw [Int.zero_add, Nat.zero_add]
noncomputable def bd_cs (F : FF) : SF := (Dn.sExt 2 (Dn.eComp (Dn.iSeq (Dn.eCall (Dn.noX F) (Dn.aCons (Dn.eCut (Dn.eVarW 0) (Dn.oInt (Dn.e2 Dn.addD (Dn.eVarW 3) (Dn.eC (.int 1)))) Dn.oNo) (Dn.aCons (Dn.e2 Dn.subD (Dn.eVarW 1) (Dn.eC (.int 1))) Dn.aNil)))) (Dn.gName 4) Dn.tYesF (Dn.e2 Dn.addD (Dn.eTup (Dn.aCons (Dn.e2 Dn.ixD (Dn.eVarW 0) (Dn.eVarW 3)) Dn.aNil)) (Dn.eVarW 4)) [4]))
theorem lp_cs {ls : List Lk} {k : Nat} {F : FF} (hl : ls.length ≤ 12) (hF : ∀ l, l.length ≤ 12 → F [encLs l, .int k] = some (.ok (.list ((ch k l).map encC)))) : ∀ (post pre : List Lk) (acc : List D) (s3 s4 : Option Sl), ls = pre ++ post → acc.length + 2 ^ post.length ≤ 2 ^ 13 → ∃ s3' s4',
    forL (gName 3) (bd_cs F) (ixs pre.length post) [some (.dat (encLs ls)), some (.dat (.int ((k : Int) + 1))), some (.own acc), s3, s4] = some (.nx [some (.dat (encLs ls)), some (.dat (.int ((k : Int) + 1))), some (.own (acc ++ (ch (k + 1) post).map encC)), s3', s4'])
  | [], pre, acc, s3, s4, h, _ => ⟨s3, s4, by simp [ixs, forL, ch]⟩
  | x :: post, pre, acc, s3, s4, h, ha => by
    rw [List.length_cons, Nat.pow_succ] at ha
    have hcl := ch_len post k
    have hlen : ls.length = pre.length + (post.length + 1) := by rw [h, List.length_append, List.length_cons]
    have hp12 : post.length ≤ 12 := by omega
    obtain ⟨t3, t4, ih⟩ := lp_cs hl hF post (pre ++ [x]) (acc ++ ((ch k post).map fun s => encC (x :: s))) (some (.dat (.int pre.length))) s4 (by rw [h]; simp) (by
      rw [List.length_append, List.length_map]
      omega)
    refine ⟨t3, t4, ?_⟩
    have hcut : cutD (some ((pre.length : Int) + 1)) none (encLs ls) = some (encLs post) := by
      rw [show (pre.length : Int) + 1 = ((pre.length + 1 : Nat) : Int) from (Int.natCast_succ _).symm]
      show some (PyData.tuple (cutL (ls.map encL) (some ((pre.length + 1 : Nat) : Int)) none)) = _
      rw [cut_hi _ (by rw [List.length_map]; omega), h, List.map_append, List.map_cons, List.drop_append, List.length_map]
      simp [encLs]
    have hix : ixD (encLs ls) (.int pre.length) = some (encL x) := by
      show (ixNat (ls.map encL).length (pre.length : Int)).bind _ = _
      have e1 : ixNat (ls.map encL).length (pre.length : Int) = some pre.length := by
        unfold ixNat
        rw [if_pos (by omega), if_pos (by rw [List.length_map]; omega)]
        simp
      rw [e1, h]
      simp
    have hcall := noX_ok' (hF post hp12)
    have hbd : bd_cs F [some (.dat (encLs ls)), some (.dat (.int ((k : Int) + 1))), some (.own acc), some (.dat (.int pre.length)), s4] = some (.nx [some (.dat (encLs ls)), some (.dat (.int ((k : Int) + 1))), some (.own (acc ++ ((ch k post).map fun s => encC (x :: s)))), some (.dat (.int pre.length)), s4]) := by
      have e := comp_of (it := (Dn.iSeq (Dn.eCall (Dn.noX F) (Dn.aCons (Dn.eCut (Dn.eVarW 0) (Dn.oInt (Dn.e2 Dn.addD (Dn.eVarW 3) (Dn.eC (.int 1)))) Dn.oNo) (Dn.aCons (Dn.e2 Dn.subD (Dn.eVarW 1) (Dn.eC (.int 1))) Dn.aNil))))) (g := gName 4) (f := (Dn.e2 Dn.addD (Dn.eTup (Dn.aCons (Dn.e2 Dn.ixD (Dn.eVarW 0) (Dn.eVarW 3)) Dn.aNil)) (Dn.eVarW 4))) (vs := [4]) (ρ := [some (.dat (encLs ls)), some (.dat (.int ((k : Int) + 1))), some (.own acc), some (.dat (.int pre.length)), s4]) encC (ch k post) (fun s => encC (x :: s)) (by
        simp [eCut, oInt, oNo, intOf, hcut, Int.add_sub_cancel, hcall]) (by
        have : 2 ^ post.length ≤ 2 ^ 12 := Nat.pow_le_pow_right (by decide) hp12
        omega) (fun s hs => ⟨_, rfl, by
        have hsl := (ch_mem post k s hs)
        have e3 : addD (.tuple [encL x]) (encC s) = some (encC (x :: s)) := by
          show addD (.tuple [encL x]) (.tuple (s.map encL)) = _
          rw [addTT]
          · rfl
          · rw [List.length_singleton, List.length_map, hsl.1]
            have : k ≤ 12 := by
              have h5 : ∀ (l : List Lk) (k : Nat), ch k l ≠ [] → k ≤ l.length := fun l => by
                induction l with
                | nil =>
                  intro k hk
                  cases k with
                  | zero => exact Nat.le_refl _
                  | succ k => exact absurd rfl hk
                | cons y l ih =>
                  intro k hk
                  cases k with
                  | zero => exact Nat.zero_le _
                  | succ k =>
                    rw [List.length_cons]
                    by_cases h6 : ch k l = []
                    · have h7 : ch (k + 1) l ≠ [] := fun h8 => hk (by
                        show (ch k l).map (y :: ·) ++ ch (k + 1) l = []
                        rw [h6, h8]
                        rfl)
                      have := ih (k + 1) h7
                      omega
                    · have := ih k h6
                      omega
              have := h5 post k (List.ne_nil_of_mem hs)
              omega
            omega
        simp [hix, e3]⟩)
      unfold bd_cs sExt
      simp only [List.getElem?_cons_succ, List.getElem?_cons_zero]
      rw [e, bS_ok]
      have : acc.length + ((ch k post).map fun s => encC (x :: s)).length ≤ 1000000 := by
        rw [List.length_map]
        omega
      simp only
      rw [if_pos this]
      rfl
    show forL (gName 3) (bd_cs F) (PyData.int pre.length :: ixs (pre.length + 1) post) _ = _
    unfold forL
    rw [ev_gName]
    simp only [List.set_cons_succ, List.set_cons_zero]
    rw [hbd]
    simp only
    rw [List.length_append, List.length_singleton] at ih
    rw [ih]
    have : acc ++ ((ch k post).map fun s => encC (x :: s)) ++ (ch (k + 1) post).map encC = acc ++ (ch (k + 1) (x :: post)).map encC := by
      show _ = acc ++ ((ch k post).map (x :: ·) ++ ch (k + 1) post).map encC
      rw [List.map_append, List.map_map, List.append_assoc]
      rfl
    rw [this]
theorem ev_chosen : ∀ (d k : Nat) (l : List Lk), k < d → l.length ≤ 12 → Dg.P_chosen d [encLs l, .int k] = some (.ok (.list ((ch k l).map encC)))
  | 0, k, l, h, _ => by omega
  | d + 1, 0, l, h, hl => by
    refine runF_ok rfl ?_
    show Dg.b_P_chosen _ [some (.dat (encLs l)), some (.dat (.int 0)), none, none, none] = _
    have e : ch 0 l = [[]] := by cases l <;> rfl
    unfold Dg.b_P_chosen
    rw [seq_rt (d := .list [.tuple []]) (by simp), e]
    rfl
  | d + 1, k + 1, l, h, hl => by
    refine runF_ok rfl ?_
    show Dg.b_P_chosen _ [some (.dat (encLs l)), some (.dat (.int ((k + 1 : Nat) : Int))), none, none, none] = _
    rw [show (((k + 1 : Nat) : Int)) = (k : Int) + 1 from Int.natCast_succ k]
    have hne : ¬ ((k : Int) + 1 = 0) := by omega
    have h13 : 2 ^ l.length ≤ 2 ^ 12 := Nat.pow_le_pow_right (by decide) hl
    obtain ⟨s3, s4, hf⟩ := lp_cs (k := k) (F := Dg.P_chosen d) hl (fun m hm => ev_chosen d k m (by omega) hm) l [] [] none none rfl (by simp; omega)
    unfold Dg.b_P_chosen
    rw [seq_nx (ρ' := [some (.dat (encLs l)), some (.dat (.int ((k : Int) + 1))), none, none, none]) (by simp [hne])]
    rw [seq_nx (ρ' := [some (.dat (encLs l)), some (.dat (.int ((k : Int) + 1))), some (.own []), none, none]) (by simp)]
    have hln : lenD (encLs l) = some (.int l.length) := by
      show some (PyData.int (l.map encL).length) = _
      rw [List.length_map]
    rw [seq_nx (by
      rw [ev_sFor]
      simp only [ev_iRng1, ev_e1, ev_varW, List.getElem?_cons_zero, ev_ret, bnd_ok, hln, lft_some, rng_ixs l (by omega), bS_ok]
      exact hf)]
    rfl
/-! products -/
theorem pw_fold : ∀ (s : List Lk) (a : Int), s.foldl (fun a l => a * l.2.2) a = a * pw s
  | [], a => by simp [pw]
  | l :: s, a => by
    rw [List.foldl_cons, pw_fold s]
    show _ = a * (l.2.2 * pw s)
    rw [Int.mul_assoc]
def WB (s : List Lk) : Prop := ∀ l ∈ s, 0 ≤ l.2.2 ∧ l.2.2 ≤ 100
noncomputable def bd_pr : SF := (Dn.sAsg (Dn.gName 1) (Dn.e2 Dn.mulD (Dn.eVarW 1) (Dn.eVarW 4)))
theorem ev_product {s : List Lk} (h : WB s) : Dg.P_product_of [encLs s] = some (.ok (.int (pw s))) := by
  refine runF_ok rfl ?_
  show Dg.b_P_product_of [some (.dat (encLs s)), none, none, none, none] = _
  obtain ⟨ρ', hf, s2, s3, s4, rfl⟩ := forL_I (g := gTup [2, 3, 4]) (b := bd_pr) encL (fun pre ρ => ∃ s2 s3 s4, ρ = [some (.dat (encLs s)), some (.dat (.int (pre.foldl (fun a l => a * l.2.2) 1))), s2, s3, s4]) s [] [some (.dat (encLs s)), some (.dat (.int 1)), none, none, none] ⟨none, none, none, rfl⟩ (by
    rintro pr x po ρ hp ⟨s2, s3, s4, rfl⟩
    rw [List.nil_append] at hp
    have hx := h x (by
      rw [hp]
      exact List.mem_append_right _ List.mem_cons_self)
    refine ⟨[some (.dat (encLs s)), some (.dat (.int (pr.foldl (fun a l => a * l.2.2) 1))), some (.dat (.int x.1)), some (.dat (.int x.2.1)), some (.dat (.int x.2.2))], _, rfl, ?_, some (.dat (.int x.1)), some (.dat (.int x.2.1)), some (.dat (.int x.2.2)), rfl⟩
    have e := e2_of (g := mulD) (fa := eVarW 1) (fb := eVarW 4) (ρ := [some (.dat (encLs s)), some (.dat (.int (pr.foldl (fun a l => a * l.2.2) 1))), some (.dat (.int x.1)), some (.dat (.int x.2.1)), some (.dat (.int x.2.2))]) rfl rfl (mulD_small (a := pr.foldl (fun a l => a * l.2.2) 1) (b := x.2.2) (by omega))
    unfold bd_pr
    rw [ev_sAsg, e, bS_ok, List.foldl_append]
    rfl)
  unfold Dg.b_P_product_of
  rw [seq_nx (ρ' := [some (.dat (encLs s)), some (.dat (.int 1)), none, none, none]) (by simp)]
  rw [seq_nx (by
    rw [ev_sFor]
    show bS (some (.ok (s.map encL))) _ = _
    rw [bS_ok]
    exact hf)]
  have : ([] ++ s).foldl (fun a (l : Lk) => a * l.2.2) 1 = pw s := by
    rw [List.nil_append, pw_fold, Int.one_mul]
  rw [this]
  simp
/-! trees -/
abbrev Tr := PySem.W.Tup (Int × Int) × Int
def trOf (s : List Lk) : Tr := (⟨s.map fun l => (l.1, l.2.1)⟩, pw s)
def encTr (t : Tr) : D := PySem.W.Datum.toD t
theorem encTr_eq (s : List Lk) : encTr (trOf s) = .tuple [.tuple (s.map fun l => .tuple [.int l.1, .int l.2.1]), .int (pw s)] := by
  show PyData.tuple [.tuple ((s.map fun l => (l.1, l.2.1)).map PySem.W.Datum.toD), .int (pw s)] = _
  rw [List.map_map]
  rfl
theorem sortOk_Tr {L : List Tr} (h : L.length ≤ 1000) : sortOk (L.map encTr) = true := by
  have h1 : PyData.depthAll (L.map encTr) ≤ 3 := PySem.W.depthAll_map L
  have h2 : ((L.map encTr).all fun x => (L.map encTr).all fun y => PySem.W.alike x y) = true := by
    rw [List.all_eq_true]
    intro x hx
    rw [List.all_eq_true]
    intro y hy
    obtain ⟨a, _, rfl⟩ := List.mem_map.mp hx
    obtain ⟨b, _, rfl⟩ := List.mem_map.mp hy
    exact PySem.W.DatumOrd.alike a b
  have h3 : ((L.map encTr).all fun x => match x with | .tuple (_ :: _) => true | _ => false) = true := by
    rw [List.all_eq_true]
    intro x hx
    obtain ⟨a, _, rfl⟩ := List.mem_map.mp hx
    rfl
  have h4 : (L.map encTr).length ≤ 1000 := by
    rw [List.length_map]
    exact h
  unfold sortOk
  rw [h2]
  simp only [Bool.true_and, Bool.and_eq_true, decide_eq_true_eq]
  exact ⟨⟨h3, Nat.le_trans h1 (by decide)⟩, h4⟩
theorem sort_Tr {L : List Tr} (h : L.length ≤ 1000) : sortD (.list (L.map encTr)) = some (.list (sortL (L.map encTr))) := by
  show (if sortOk (L.map encTr) = true then some (PyData.list (sortL (L.map encTr))) else none) = _
  rw [if_pos (sortOk_Tr h)]
open Classical in
noncomputable def conB (c : Int) (s : List Lk) : Bool := decide (Conn s (nums c))
open Classical in
theorem conB_iff {c : Int} {s : List Lk} : conB c s = true ↔ Conn s (nums c) := by
  unfold conB
  exact decide_eq_true_iff
noncomputable def trs (c : Int) (ls : List Lk) : List (List Lk) := (ch c.toNat ls).filter (conB c)
noncomputable def bd_tr : SF := (Dn.sIf (Dn.asB (Dn.e2 Dn.eqD (Dn.e1 Dn.lenD (Dn.eCall Dg.P_come_to (Dn.aCons (Dn.eVar 2) Dn.aNil))) (Dn.e2 Dn.addD (Dn.e2 Dn.ixD (Dn.eVarW 0) (Dn.eC (.int 0))) (Dn.eC (.int 1))))) (Dn.sApp 1 (Dn.eTup (Dn.aCons (Dn.e1 Dn.tupD (Dn.eComp (Dn.iSeq (Dn.eVar 2)) (Dn.gName 3) Dn.tYesF (Dn.eCut (Dn.eVarW 3) Dn.oNo (Dn.oInt (Dn.eC (.int 2)))) [3])) (Dn.aCons (Dn.eCall Dg.P_product_of (Dn.aCons (Dn.eVar 2) Dn.aNil)) Dn.aNil)))) Dn.sNx)
theorem pairs_comp {it : AF} {ρ : Dn.Env} {i : Nat} (s : List Lk) (hs : s.length ≤ 1000) (hi : it ρ = some (.ok (s.map encL))) (hlt : i < ρ.length) : eComp it (gName i) tYesF (eCut (eVarW i) oNo (oInt (eC (.int 2)))) [i] ρ = some (.ok (.list (s.map fun l => .tuple [.int l.1, .int l.2.1]))) := by
  refine comp_of encL s (fun l => .tuple [.int l.1, .int l.2.1]) hi (by omega) fun l _ => ⟨_, rfl, ?_⟩
  have e1 : cutD none (some 2) (encL l) = some (.tuple [.int l.1, .int l.2.1]) := rfl
  have e2' : eVarW i ((wipe ρ [i]).set i (some (.dat (encL l)))) = some (.ok (encL l)) := by
    have : ((wipe ρ [i]).set i (some (.dat (encL l))))[i]? = some (some (.dat (encL l))) := by
      show ((ρ.set i none).set i (some (.dat (encL l))))[i]? = _
      rw [List.getElem?_set_self (by rw [List.length_set]; exact hlt)]
    rw [ev_varW, this]
    rfl
  unfold eCut
  rw [e2', bnd_ok]
  show bnd (some (.ok none)) (fun l_1 => bnd (oInt (eC (.int 2)) _) fun h => lft (cutD l_1 h (encL l))) = _
  rw [bnd_ok]
  show lft (cutD none (some 2) (encL l)) = _
  rw [e1]
  rfl
theorem st_tr {c : Int} {ls s : List Lk} (h0 : 0 ≤ c) (hc : c ≤ 100) (r : LR c s) (w : WB s) (hs : s.length ≤ 1000) (acc : List D) (ha : acc.length < 1000000) (s3 : Option Sl) : bd_tr [some (.dat (encY c ls)), some (.own acc), some (.dat (encLs s)), s3] = some (.nx [some (.dat (encY c ls)), some (.own (acc ++ if conB c s = true then [encTr (trOf s)] else [])), some (.dat (encLs s)), s3]) := by
  obtain ⟨M, g, cl, hM⟩ := ev_come r h0 hc
  have hiff := g.conn h0 r (.inl cl)
  have hl : lenD (.list (msD M)) = some (.int M.length) := by
    show some (PyData.int (M.map PyData.int).length) = _
    rw [List.length_map]
  have ht : asB (Dn.e2 Dn.eqD (Dn.e1 Dn.lenD (Dn.eCall Dg.P_come_to (Dn.aCons (Dn.eVar 2) Dn.aNil))) (Dn.e2 Dn.addD (Dn.e2 Dn.ixD (Dn.eVarW 0) (Dn.eC (.int 0))) (Dn.eC (.int 1)))) [some (.dat (encY c ls)), some (.own acc), some (.dat (encLs s)), s3] = some (.ok (conB c s)) := by
    have h0' : ixD (encY c ls) (.int 0) = some (.int c) := by simp [encY]
    have e : ((M.length : Int) == c + 1) = conB c s := by
      rw [Bool.eq_iff_iff, beq_iff_eq, conB_iff, ← hiff]
      omega
    simp [hM, hl, h0', e]
  unfold bd_tr
  rw [ev_sIf, ht, bS_ok]
  by_cases hcn : conB c s = true
  · rw [if_pos hcn, if_pos hcn, ev_sApp]
    simp only [List.getElem?_cons_succ, List.getElem?_cons_zero]
    have e : eTup (aCons (Dn.e1 Dn.tupD (Dn.eComp (Dn.iSeq (Dn.eVar 2)) (Dn.gName 3) Dn.tYesF (Dn.eCut (Dn.eVarW 3) Dn.oNo (Dn.oInt (Dn.eC (.int 2)))) [3])) (Dn.aCons (Dn.eCall Dg.P_product_of (Dn.aCons (Dn.eVar 2) Dn.aNil)) Dn.aNil)) [some (.dat (encY c ls)), some (.own acc), some (.dat (encLs s)), s3] = some (.ok (encTr (trOf s))) := by
      rw [ev_tup, ev_aCons, ev_e1, pairs_comp s hs rfl (by simp), bnd_ok, encTr_eq]
      simp [ev_product w]
    rw [e, bS_ok, if_pos ha]
    rfl
  · rw [if_neg hcn, if_neg hcn, List.append_nil]
    rfl
theorem ev_trees {c : Int} {ls : List Lk} (h1 : 1 ≤ c) (hc : c ≤ 5) (r : LR c ls) (w : WB ls) (hl : ls.length ≤ 8) : Dg.P_trees [encY c ls] = some (.ok (.tuple (sortL (((trs c ls).map trOf).map encTr)))) := by
  refine runF_ok rfl ?_
  show Dg.b_P_trees [some (.dat (encY c ls)), none, none, none] = _
  have h256 : (ch c.toNat ls).length ≤ 256 := by
    have h1 := ch_len ls c.toNat
    have h2 : 2 ^ ls.length ≤ 2 ^ 8 := Nat.pow_le_pow_right (by decide) hl
    omega
  obtain ⟨ρ', hf, s2, s3, rfl⟩ := forL_I (g := gName 2) (b := bd_tr) encC (fun pre ρ => ∃ s2 s3, ρ = [some (.dat (encY c ls)), some (.own (((pre.filter (conB c)).map trOf).map encTr)), s2, s3]) (ch c.toNat ls) [] [some (.dat (encY c ls)), some (.own []), none, none] ⟨none, none, rfl⟩ (by
    rintro pr x po ρ hp ⟨s2, s3, rfl⟩
    rw [List.nil_append] at hp
    have hx : x ∈ ch c.toNat ls := by
      rw [hp]
      exact List.mem_append_right _ List.mem_cons_self
    obtain ⟨hx1, hx2⟩ := ch_mem ls c.toNat x hx
    have hpl : pr.length < (ch c.toNat ls).length := by
      rw [hp, List.length_append, List.length_cons]
      omega
    have hfl := List.length_filter_le (conB c) pr
    refine ⟨[some (.dat (encY c ls)), some (.own (((pr.filter (conB c)).map trOf).map encTr)), some (.dat (encLs x)), s3], _, rfl, st_tr (by omega) (by omega) (fun l hl => r l (hx2 l hl)) (fun l hl => w l (hx2 l hl)) (by omega) _ (by rw [List.length_map, List.length_map]; omega) s3, some (.dat (encLs x)), s3, ?_⟩
    rw [List.filter_append, List.map_append, List.map_append]
    by_cases hcn : conB c x = true
    · rw [List.filter_cons_of_pos hcn, if_pos hcn]
      rfl
    · rw [List.filter_cons_of_neg hcn, if_neg hcn]
      rfl)
  have hch := ev_chosen 6 c.toNat ls (by omega) (by omega)
  rw [show ((c.toNat : Nat) : Int) = c by omega] at hch
  have ht : (trs c ls).length ≤ 256 := Nat.le_trans (List.length_filter_le _ _) h256
  unfold Dg.b_P_trees
  rw [seq_nx (ρ' := [some (.dat (encY c ls)), some (.own []), none, none]) (by simp)]
  rw [seq_nx (by
    rw [ev_sFor]
    have e : iSeq (eCall (Dg.P_chosen 6) (aCons (e2 ixD (eVarW 0) (eC (.int 1))) (aCons (e2 ixD (eVarW 0) (eC (.int 0))) aNil))) [some (.dat (encY c ls)), some (.own []), none, none] = some (.ok ((ch c.toNat ls).map encC)) := by
      have h0' : ixD (encY c ls) (.int 0) = some (.int c) := by simp [encY]
      have h1' : ixD (encY c ls) (.int 1) = some (encLs ls) := by simp [encY]
      simp [h0', h1', hch]
    rw [e, bS_ok]
    exact hf)]
  show bS (e1 tupD (e1 sortD (eVarW 1)) [some (.dat (encY c ls)), some (.own (((trs c ls).map trOf).map encTr)), s2, s3]) _ = _
  have e := e1_of (e1_of (g := sortD) (fa := eVarW 1) (ρ := [some (.dat (encY c ls)), some (.own (((trs c ls).map trOf).map encTr)), s2, s3]) rfl (sort_Tr (L := (trs c ls).map trOf) (by rw [List.length_map]; omega))) (ev_tupL _)
  rw [e]
  rfl
theorem ev_count {c : Int} {ls : List Lk} (h1 : 1 ≤ c) (hc : c ≤ 5) (r : LR c ls) (w : WB ls) (hl : ls.length ≤ 8) : Dg.P_count_of [encY c ls] = some (.ok (.int (det c ls))) := by
  refine runF_ok rfl ?_
  show Dg.b_P_count_of [some (.dat (encY c ls)), none, none] = _
  obtain ⟨zs, hz, hp⟩ := sort_map ((trs c ls).map trOf)
  have hs : ((trs c ls).map pw).sum = det c ls := by
    have := trees_det (ls := ls) (fun l hl => (r l hl).2.1) (nums_nodup c)
    rw [nums_len] at this
    exact this
  have hsum : (zs.map fun t => t.2).sum = det c ls := by
    rw [← hs]
    have h2 := su_perm (hp.map fun t => t.2)
    rw [h2, List.map_map]
    rfl
  have hlen : zs.length ≤ 256 := by
    rw [hp.length_eq, List.length_map]
    have h1 := ch_len ls c.toNat
    have h2 : 2 ^ ls.length ≤ 2 ^ 8 := Nat.pow_le_pow_right (by decide) hl
    have h3 := List.length_filter_le (conB c) (ch c.toNat ls)
    show ((ch c.toNat ls).filter (conB c)).length ≤ 256
    omega
  have ht := ev_trees h1 hc r w hl
  rw [show sortL (((trs c ls).map trOf).map encTr) = zs.map encTr from hz] at ht
  unfold Dg.b_P_count_of
  rw [ev_sRet, ev_e1, comp_of encTr zs (fun t => .int t.2) (by simp [ht]) (by omega) (fun t _ => ⟨[some (.dat (encY c ls)), some (.dat (PySem.W.Datum.toD t.1)), some (.dat (.int t.2))], rfl, rfl⟩), bnd_ok]
  have hm : (zs.map fun t => PyData.int t.2) = (zs.map fun t => t.2).map .int := by
    rw [List.map_map]
    rfl
  rw [hm, ev_sum, hsum]
  rfl
end Pe

set_option maxHeartbeats 4400000
namespace Pe
open Dn
open PySem (PyData)
/-! ### yards among any data -/
def nmB (d : D) (lo hi : Int) : Bool := match d with
  | .int i => decide (lo ≤ i) && decide (i ≤ hi)
  | _ => false
theorem ev_num {d : D} (hd : d.plain = true) (lo hi : Int) : Dg.P_is_number [d, .int lo, .int hi] = some (.ok (.bool (nmB d lo hi))) := by
  refine runF_ok rfl ?_
  show Dg.b_P_is_number [some (.dat d), some (.dat (.int lo)), some (.dat (.int hi))] = _
  unfold Dg.b_P_is_number
  cases d with
  | int i =>
    by_cases h : lo ≤ i
    · simp [isiD, notD, eChain, nmB, h, boolD]
    · simp [isiD, notD, eChain, nmB, h, boolD]
  | bool b => simp [isiD, notD, nmB]
  | none => simp [isiD, nmB]
  | str b => simp [isiD, nmB]
  | list b => simp [isiD, nmB]
  | tuple b => simp [isiD, nmB]
  | dict b => simp [PyData.plain] at hd
theorem ev_Lnum {d : D} (hd : d.plain = true) (lo hi : Int) : Dg.L_number [d, .int lo, .int hi] = some (.ok (.bool (nmB d lo hi))) := ev_num hd lo hi
theorem ix3_2 (a b w : D) : ixD (.tuple [a, b, w]) (.int 2) = some w := rfl
theorem ix3_1 (a b w : D) : ixD (.tuple [a, b, w]) (.int 1) = some b := rfl
theorem ix3_0 (a b w : D) : ixD (.tuple [a, b, w]) (.int 0) = some a := rfl
def lkB (d : D) (c : Int) : Bool := match d with
  | .tuple [a, b, w] => nmB a 0 c && nmB b 0 c && (match a, b with | .int x, .int y => decide (x < y) | _, _ => false) && nmB w 1 4
  | _ => false
theorem ev_link {d : D} (hd : d.plain = true) (c : Int) : Dg.P_is_link [d, .int c] = some (.ok (.bool (lkB d c))) := by
  refine runF_ok rfl ?_
  show Dg.b_P_is_link [some (.dat d), some (.dat (.int c))] = _
  unfold Dg.b_P_is_link
  cases d with
  | tuple xs =>
    by_cases h3 : xs.length = 3
    · match xs, h3, hd with
      | [a, b, w], _, hd =>
        simp [PyData.plain, PyData.plainAll] at hd
        obtain ⟨ha, hb, hw⟩ := hd
        rw [seq_nx (ρ' := [some (.dat (.tuple [a, b, w])), some (.dat (.int c))]) (by simp [isiD, lenD, tOrF, tNotF])]
        by_cases h : (nmB a 0 c && nmB b 0 c) = true
        · rw [seq_nx (ρ' := [some (.dat (.tuple [a, b, w])), some (.dat (.int c))]) (by
            have h2 := Bool.and_eq_true_iff.mp h
            simp [tOrF, tNotF, ix3_1, ev_num ha, ev_num hb, h2.1, h2.2])]
          have h2 := Bool.and_eq_true_iff.mp h
          cases a with
          | int x =>
            cases b with
            | int y =>
              by_cases hxy : x < y
              · simp [ix3_2, ix3_1, ev_num hw, hxy, lkB, h]
              · simp [ix3_2, ix3_1, ev_num hw, hxy, lkB, h]
            | bool b => simp [nmB] at h2
            | none => simp [nmB] at h2
            | str b => simp [nmB] at h2
            | list b => simp [nmB] at h2
            | tuple b => simp [nmB] at h2
            | dict b => simp [nmB] at h2
          | bool b => simp [nmB] at h2
          | none => simp [nmB] at h2
          | str b => simp [nmB] at h2
          | list b => simp [nmB] at h2
          | tuple b => simp [nmB] at h2
          | dict b => simp [nmB] at h2
        · have hf : lkB (.tuple [a, b, w]) c = false := by
            show ((nmB a 0 c && nmB b 0 c) && _ && _) = false
            rw [eq_false_of_ne_true h]
            rfl
          rw [hf]
          rw [seq_rt (d := .bool false) (by
            cases h1 : nmB a 0 c with
            | false => simp [tOrF, tNotF, ix3_1, ev_num ha, ev_num hb, h1]
            | true =>
              cases h2 : nmB b 0 c with
              | false => simp [tOrF, tNotF, ix3_1, ev_num ha, ev_num hb, h1, h2]
              | true => exact absurd (by rw [h1, h2]; rfl) h)]
    · have hf : lkB (.tuple xs) c = false := by
        unfold lkB
        split
        · rename_i e
          cases e
          exact absurd rfl h3
        · rfl
      rw [hf, seq_rt (d := .bool false) (by
        have h3' : ¬ ((xs.length : Int) = 3) := by omega
        simp [isiD, lenD, tOrF, tNotF, h3'])]
  | int i => rw [seq_rt (d := .bool false) (by simp [isiD, tOrF, tNotF])]; rfl
  | bool b => rw [seq_rt (d := .bool false) (by simp [isiD, tOrF, tNotF])]; rfl
  | none => rw [seq_rt (d := .bool false) (by simp [isiD, tOrF, tNotF])]; rfl
  | str b => rw [seq_rt (d := .bool false) (by simp [isiD, tOrF, tNotF])]; rfl
  | list b => rw [seq_rt (d := .bool false) (by simp [isiD, tOrF, tNotF])]; rfl
  | dict b => simp [PyData.plain] at hd
theorem ev_Llink {d : D} (hd : d.plain = true) (c : Int) : Dg.L_is_link [d, .int c] = some (.ok (.bool (lkB d c))) := ev_link hd c
/-- a link of a yard of c places -/
def LkP (c : Int) (l : Lk) : Prop := 0 ≤ l.1 ∧ l.1 < l.2.1 ∧ l.2.1 ≤ c ∧ 1 ≤ l.2.2 ∧ l.2.2 ≤ 4
theorem lkB_enc {c : Int} {d : D} (h : lkB d c = true) : ∃ l, d = encL l ∧ LkP c l := by
  unfold lkB at h
  split at h
  · rename_i a b w
    simp only [Bool.and_eq_true] at h
    obtain ⟨⟨⟨ha, hb⟩, hab⟩, hw⟩ := h
    split at hab
    · rename_i x y
      cases w with
      | int v =>
        simp [nmB] at ha hb hw
        have := of_decide_eq_true hab
        exact ⟨(x, y, v), rfl, ha.1, this, hb.2, hw.1, hw.2⟩
      | bool b => simp [nmB] at hw
      | none => simp [nmB] at hw
      | str b => simp [nmB] at hw
      | list b => simp [nmB] at hw
      | tuple b => simp [nmB] at hw
      | dict b => simp [nmB] at hw
    · cases hab
  · cases h
theorem lkB_of {c : Int} {l : Lk} (h : LkP c l) : lkB (encL l) c = true := by
  obtain ⟨h1, h2, h3, h4, h5⟩ := h
  have a : 0 ≤ l.2.1 := by omega
  have b : l.1 ≤ c := by omega
  simp [lkB, encL, nmB, h1, h2, h3, h4, h5, a, b]
end Pe

set_option maxHeartbeats 4400000
namespace Pe
open Dn
open PySem (PyData)
/-! ### is_yard, the program's -/
def lt2 (a b : Lk) : Bool := decide (a.1 < b.1 ∨ (a.1 = b.1 ∧ a.2.1 < b.2.1))
def cons2 (ls : List Lk) : List (Lk × Lk) := ls.zip ls.tail
def ordB (ls : List Lk) : Bool := (cons2 ls).all fun p => lt2 p.1 p.2
/-- a yard -/
structure YP (c : Int) (ls : List Lk) : Prop where
  c1 : 1 ≤ c
  c5 : c ≤ 5
  lk : ∀ l ∈ ls, LkP c l
  od : ordB ls = true
  cn : Conn ls (nums c)
open Classical in
noncomputable def yrB (d : D) : Bool := decide (∃ c ls, d = encY c ls ∧ YP c ls)
open Classical in
theorem yrB_iff {d : D} : yrB d = true ↔ ∃ c ls, d = encY c ls ∧ YP c ls := by
  unfold yrB
  exact decide_eq_true_iff
theorem encL_inj {a b : Lk} (h : encL a = encL b) : a = b := by
  unfold encL at h
  injection h with h
  simp at h
  exact Prod.ext h.1 (Prod.ext h.2.1 h.2.2)
theorem encLs_inj : ∀ {a b : List Lk}, a.map encL = b.map encL → a = b
  | [], [], _ => rfl
  | [], _ :: _, h => by simp at h
  | _ :: _, [], h => by simp at h
  | x :: a, y :: b, h => by
    rw [List.map_cons, List.map_cons] at h
    injection h with h1 h2
    rw [encL_inj h1, encLs_inj h2]
theorem encY_inj {c c' : Int} {a b : List Lk} (h : encY c a = encY c' b) : c = c' ∧ a = b := by
  unfold encY encLs at h
  injection h with h
  simp at h
  exact ⟨h.1, encLs_inj (by simpa using h.2)⟩
theorem yrB_enc {c : Int} {ls : List Lk} : yrB (encY c ls) = true ↔ YP c ls := by
  rw [yrB_iff]
  constructor
  · rintro ⟨c', ls', h, y⟩
    obtain ⟨rfl, rfl⟩ := encY_inj h
    exact y
  · intro y
    exact ⟨c, ls, rfl, y⟩
theorem yrB_false {d : D} (h : ∀ c ls, d = encY c ls → YP c ls → False) : yrB d = false := by
  cases k : yrB d with
  | false => rfl
  | true =>
    obtain ⟨c, ls, e, y⟩ := yrB_iff.mp k
    exact (h c ls e y).elim
theorem plainAll_mem : ∀ {xs : List D}, PyData.plainAll xs = true → ∀ x ∈ xs, x.plain = true
  | y :: xs, h, x, hx => by
    simp [PyData.plainAll] at h
    rcases List.mem_cons.mp hx with rfl | hx
    · exact h.1
    · exact plainAll_mem h.2 x hx
theorem cut_neg {α : Type} (xs : List α) : cutL xs none (some (-1)) = xs.dropLast := by
  unfold cutL sIx
  have e : HT.sIx xs.length xs.length (some (-1)) = xs.length - 1 := by
    unfold HT.sIx
    first
    | (simp; done)
    | (simp; omega)
    | (split <;> omega)
  rw [HT.sIx_none, e, List.drop_zero, Nat.sub_zero, List.dropLast_eq_take]
theorem zip_cons2 : ∀ ls : List Lk, zipL (ls.map encL).dropLast ((ls.map encL).drop 1) = (cons2 ls).map fun p => .tuple [encL p.1, encL p.2]
  | [] => rfl
  | [a] => rfl
  | a :: b :: r => by
    have ih := zip_cons2 (b :: r)
    show zipL (encL a :: ((b :: r).map encL).dropLast) (encL b :: r.map encL) = PyData.tuple [encL a, encL b] :: (cons2 (b :: r)).map _
    rw [← ih]
    rfl
theorem lt2_D (a b : Lk) : ltD (.tuple [.int a.1, .int a.2.1]) (.tuple [.int b.1, .int b.2.1]) = some (.bool (lt2 a b)) := by
  have e := PySem.W.dataLt_ii a.1 a.2.1 b.1 b.2.1
  have hc : cmpOk (.tuple [.int a.1, .int a.2.1]) (.tuple [.int b.1, .int b.2.1]) = true := by
    simp [cmpOk, PySem.W.alike, PySem.W.alikeAll, PyData.depth, PyData.depthAll]
  unfold ltD
  rw [hc, e]
  rfl
theorem ge2_D (a b : Lk) : geD (.tuple [.int a.1, .int a.2.1]) (.tuple [.int b.1, .int b.2.1]) = some (.bool (!lt2 a b)) := by
  have e := PySem.W.dataLt_ii a.1 a.2.1 b.1 b.2.1
  have hc : cmpOk (.tuple [.int a.1, .int a.2.1]) (.tuple [.int b.1, .int b.2.1]) = true := by
    simp [cmpOk, PySem.W.alike, PySem.W.alikeAll, PyData.depth, PyData.depthAll]
  unfold geD
  rw [hc, e]
  rfl
theorem bools_all {α : Type} (P : α → Bool) (xs : List α) : allD (.list (xs.map fun x => PyData.bool (P x))) = some (.bool (xs.all P)) := by
  have e : (xs.map fun x => PyData.bool (P x)) = (xs.map P).map .bool := by
    rw [List.map_map]
    rfl
  rw [e, ev_all]
  congr 2
  induction xs with
  | nil => rfl
  | cons x xs ih =>
    rw [List.map_cons, List.all_cons, List.all_cons, ih (by rw [List.map_map]; rfl)]
    rfl
theorem all_enc {c : Int} : ∀ {xs : List D}, (∀ x ∈ xs, lkB x c = true) → ∃ ls : List Lk, xs = ls.map encL ∧ ∀ l ∈ ls, LkP c l
  | [], _ => ⟨[], rfl, fun l h => by cases h⟩
  | x :: xs, h => by
    obtain ⟨l, rfl, hl⟩ := lkB_enc (h x List.mem_cons_self)
    obtain ⟨ls, rfl, hls⟩ := all_enc fun y hy => h y (List.mem_cons_of_mem _ hy)
    refine ⟨l :: ls, rfl, fun m hm => ?_⟩
    rcases List.mem_cons.mp hm with rfl | hm
    · exact hl
    · exact hls m hm
theorem pair_of {d : D} (h : ∃ a b, d = .tuple [a, b]) (P : D → D → Prop) : True := trivial
theorem ev_isyard {d : D} (hd : d.plain = true) (hlen : ∀ c xs, d = .tuple [c, .tuple xs] → xs.length ≤ 1000) : Dg.P_is_yard [d] = some (.ok (.bool (yrB d))) := by
  refine runF_ok rfl ?_
  show Dg.b_P_is_yard [some (.dat d), none, none, none, none, none] = _
  by_cases h1 : ∃ c e, d = .tuple [.int c, e] ∧ 1 ≤ c ∧ c ≤ 5
  · obtain ⟨c, e, rfl, hc1, hc5⟩ := h1
    simp [PyData.plain, PyData.plainAll] at hd
    unfold Dg.b_P_is_yard
    rw [seq_nx (ρ' := [some (.dat (.tuple [.int c, e])), none, none, none, none, none]) (by
      have hn : Dg.P_is_number [.int c, .int 1, .int 5] = some (.ok (.bool true)) := by
        rw [ev_num rfl]
        simp [nmB, hc1, hc5]
      simp [isiD, lenD, tOrF, tNotF, hn])]
    rw [seq_nx (ρ' := [some (.dat (.tuple [.int c, e])), some (.dat (.int c)), some (.dat e), none, none, none]) (by simp)]
    by_cases h2 : ∃ xs, e = .tuple xs ∧ ∀ x ∈ xs, lkB x c = true
    · obtain ⟨xs, rfl, hx⟩ := h2
      obtain ⟨ls, rfl, hls⟩ := all_enc hx
      have hll := hlen _ _ rfl
      rw [List.length_map] at hll
      simp [PyData.plain] at hd
      rw [show PyData.tuple [.int c, .tuple (ls.map encL)] = encY c ls from rfl, show PyData.tuple (ls.map encL) = encLs ls from rfl]
      have hyp : (∀ l ∈ ls, LkP c l) := hls
      rw [seq_nx (ρ' := [some (.dat (encY c ls)), some (.dat (.int c)), some (.dat (encLs ls)), none, none, none]) (by
        have ea := comp_of (it := iSeq (eVar 2)) (g := gName 5) (f := eCall Dg.P_is_link (aCons (eVar 5) (aCons (eVar 1) aNil))) (vs := [5]) (ρ := [some (.dat (encY c ls)), some (.dat (.int c)), some (.dat (encLs ls)), none, none, none]) encL ls (fun l => .bool (lkB (encL l) c)) rfl (by omega) (fun l hl => ⟨_, rfl, by
          have := ev_link (d := encL l) rfl c
          simp [this]⟩)
        have eb := e1_of ea (bools_all (fun l => lkB (encL l) c) ls)
        have et : (ls.all fun l => lkB (encL l) c) = true := List.all_eq_true.mpr fun l hl => lkB_of (hls l hl)
        rw [et] at eb
        rw [ev_sIf]
        have ei : asB (e1 (isiD 2) (eVarW 2)) [some (.dat (encY c ls)), some (.dat (.int c)), some (.dat (encLs ls)), none, none, none] = some (.ok true) := rfl
        have ee : tOrF (tNotF (asB (e1 (isiD 2) (eVarW 2)))) (tNotF (asB (e1 allD (eComp (iSeq (eVar 2)) (gName 5) tYesF (eCall Dg.P_is_link (aCons (eVar 5) (aCons (eVar 1) aNil))) [5])))) [some (.dat (encY c ls)), some (.dat (.int c)), some (.dat (encLs ls)), none, none, none] = some (.ok false) := by
          simp only [tOrF, tNotF]
          rw [ei]
          simp only [bnd_ok, Bool.not_true, ev_ret]
          rw [ev_asB, eb]
          rfl
        rw [ee]
        rfl)]
      have q1 : cutD none (some (-1)) (encLs ls) = some (.tuple (ls.map encL).dropLast) := by
        show some (PyData.tuple (cutL (ls.map encL) none (some (-1)))) = _
        rw [cut_neg]
      have hz : iZip (eCut (eVarW 2) oNo (oInt (e1 negD (eC (.int 1))))) (eCut (eVarW 2) (oInt (eC (.int 1))) oNo) [some (.dat (encY c ls)), some (.dat (.int c)), some (.dat (encLs ls)), none, none, none] = some (.ok ((cons2 ls).map fun p => .tuple [encL p.1, encL p.2])) := by
        have q2 : cutD (some 1) none (encLs ls) = some (.tuple ((ls.map encL).drop 1)) := by
          by_cases h0 : ls = []
          · subst h0
            rfl
          · show some (PyData.tuple (cutL (ls.map encL) (some ((1 : Nat) : Int)) none)) = _
            rw [cut_hi _ (by
              rw [List.length_map]
              exact List.length_pos_iff.mpr h0)]
        have q3 : zipD (.tuple (ls.map encL).dropLast) (.tuple ((ls.map encL).drop 1)) = some ((cons2 ls).map fun p => .tuple [encL p.1, encL p.2]) := by
          rw [← zip_cons2]
          rfl
        simp [eCut, oNo, oInt, intOf, negD, q1, q2]
        have q3' := q3
        simp at q3'
        first
        | exact q3'
        | (simp [q3'])
      have hcl : (cons2 ls).length ≤ 1000000 := by
        unfold cons2
        rw [List.length_zip]
        omega
      have hord := e1_of (comp_of (it := iZip (eCut (eVarW 2) oNo (oInt (e1 negD (eC (.int 1))))) (eCut (eVarW 2) (oInt (eC (.int 1))) oNo)) (g := gTup [3, 4]) (f := e2 ltD (eCut (eVarW 3) oNo (oInt (eC (.int 2)))) (eCut (eVarW 4) oNo (oInt (eC (.int 2))))) (vs := [3, 4]) (fun p : Lk × Lk => PyData.tuple [encL p.1, encL p.2]) (cons2 ls) (fun p => .bool (lt2 p.1 p.2)) hz hcl (fun p _ => ⟨_, rfl, by
        have k1 : ∀ l : Lk, cutD none (some 2) (encL l) = some (.tuple [.int l.1, .int l.2.1]) := fun _ => rfl
        simp [eCut, oNo, oInt, intOf, k1, lt2_D]⟩)) (bools_all (fun p : Lk × Lk => lt2 p.1 p.2) (cons2 ls))
      rw [show ((cons2 ls).all fun p => lt2 p.1 p.2) = ordB ls from rfl] at hord
      cases ho : ordB ls with
      | false =>
        rw [ho] at hord
        rw [yrB_false fun c' ls' e y => by
          obtain ⟨rfl, rfl⟩ := encY_inj e
          rw [y.od] at ho
          cases ho]
        rw [seq_rt (d := .bool false) (by
          rw [ev_sIf]
          simp only [tNotF]
          rw [ev_asB, hord]
          rfl)]
      | true =>
        rw [ho] at hord
        rw [seq_nx (ρ' := [some (.dat (encY c ls)), some (.dat (.int c)), some (.dat (encLs ls)), none, none, none]) (by
          rw [ev_sIf]
          simp only [tNotF]
          rw [ev_asB, hord]
          rfl)]
        have r : LR c ls := fun l hl => ⟨(hls l hl).1, (hls l hl).2.1, (hls l hl).2.2.1⟩
        obtain ⟨M, g, cl, hM⟩ := ev_come r (by omega) (by omega)
        have hiff := g.conn (by omega) r (.inl cl)
        have hl : lenD (.list (msD M)) = some (.int M.length) := by
          show some (PyData.int (M.map PyData.int).length) = _
          rw [List.length_map]
        have e : ((M.length : Int) == c + 1) = yrB (encY c ls) := by
          rw [Bool.eq_iff_iff, beq_iff_eq, yrB_enc]
          constructor
          · intro h
            exact ⟨hc1, hc5, hls, ho, hiff.mp (by omega)⟩
          · intro y
            have := hiff.mpr y.cn
            omega
        simp [hM, hl, e]
    · have hf : yrB (.tuple [.int c, e]) = false := yrB_false fun c' ls' ee y => by
        unfold encY at ee
        injection ee with ee
        simp at ee
        obtain ⟨rfl, rfl⟩ := ee
        refine h2 ⟨_, rfl, fun x hx => ?_⟩
        obtain ⟨l, hl, rfl⟩ := List.mem_map.mp hx
        exact lkB_of (y.lk l hl)
      rw [hf]
      by_cases h3 : ∃ xs, e = .tuple xs
      · obtain ⟨xs, rfl⟩ := h3
        have hll := hlen _ _ rfl
        simp [PyData.plain] at hd
        have hpl := plainAll_mem hd
        have ea := comp_of (it := iSeq (eVar 2)) (g := gName 5) (f := eCall Dg.P_is_link (aCons (eVar 5) (aCons (eVar 1) aNil))) (vs := [5]) (ρ := [some (.dat (.tuple [.int c, .tuple xs])), some (.dat (.int c)), some (.dat (.tuple xs)), none, none, none]) id xs (fun x => .bool (lkB x c)) (by
          rw [List.map_id]
          rfl) (by omega) (fun x hx => ⟨[some (.dat (.tuple [.int c, .tuple xs])), some (.dat (.int c)), some (.dat (.tuple xs)), none, none, some (.dat x)], rfl, by
          have := ev_link (hpl x hx) c
          simp [this]⟩)
        have eb := e1_of ea (bools_all (fun x => lkB x c) xs)
        have et : (xs.all fun x => lkB x c) = false := by
          cases k : xs.all fun x => lkB x c with
          | false => rfl
          | true => exact absurd ⟨xs, rfl, List.all_eq_true.mp k⟩ h2
        rw [et] at eb
        rw [seq_rt (d := .bool false) (by
          rw [ev_sIf]
          have ei : asB (e1 (isiD 2) (eVarW 2)) [some (.dat (.tuple [.int c, .tuple xs])), some (.dat (.int c)), some (.dat (.tuple xs)), none, none, none] = some (.ok true) := rfl
          have ee : tOrF (tNotF (asB (e1 (isiD 2) (eVarW 2)))) (tNotF (asB (e1 allD (eComp (iSeq (eVar 2)) (gName 5) tYesF (eCall Dg.P_is_link (aCons (eVar 5) (aCons (eVar 1) aNil))) [5])))) [some (.dat (.tuple [.int c, .tuple xs])), some (.dat (.int c)), some (.dat (.tuple xs)), none, none, none] = some (.ok true) := by
            simp only [tOrF, tNotF]
            rw [ei]
            simp only [bnd_ok, Bool.not_true, ev_ret]
            rw [ev_asB, eb]
            rfl
          rw [ee]
          rfl)]
      · rw [seq_rt (d := .bool false) (by
          cases e with
          | tuple xs => exact absurd ⟨xs, rfl⟩ h3
          | int i => simp [isiD, tOrF, tNotF]
          | bool i => simp [isiD, tOrF, tNotF]
          | none => simp [isiD, tOrF, tNotF]
          | str i => simp [isiD, tOrF, tNotF]
          | list i => simp [isiD, tOrF, tNotF]
          | dict i => simp [PyData.plain] at hd)]
  · have hf : yrB d = false := yrB_false fun c ls e y => h1 ⟨c, encLs ls, e, y.c1, y.c5⟩
    rw [hf]
    unfold Dg.b_P_is_yard
    rw [seq_rt (d := .bool false) (by
      cases d with
      | tuple xs =>
        by_cases h2 : xs.length = 2
        · match xs, h2, hd, h1 with
          | [a, b], _, hd, h1 =>
            simp [PyData.plain, PyData.plainAll] at hd
            have hn : Dg.P_is_number [a, .int 1, .int 5] = some (.ok (.bool false)) := by
              rw [ev_num hd.1]
              have : nmB a 1 5 = false := by
                cases a with
                | int i =>
                  cases k : nmB (.int i) 1 5 with
                  | false => rfl
                  | true =>
                    simp [nmB] at k
                    exact absurd ⟨i, b, rfl, k.1, k.2⟩ h1
                | bool i => rfl
                | none => rfl
                | str i => rfl
                | list i => rfl
                | tuple i => rfl
                | dict i => rfl
              rw [this]
            simp [isiD, lenD, tOrF, tNotF, hn]
        · have h2' : ¬ ((xs.length : Int) = 2) := by omega
          simp [isiD, lenD, tOrF, tNotF, h2']
      | int i => simp [isiD, tOrF, tNotF]
      | bool i => simp [isiD, tOrF, tNotF]
      | none => simp [isiD, tOrF, tNotF]
      | str i => simp [isiD, tOrF, tNotF]
      | list i => simp [isiD, tOrF, tNotF]
      | dict i => simp [PyData.plain] at hd)]
end Pe

set_option maxHeartbeats 4400000
namespace Pe
open Dn
open PySem (PyData)
/-! ### is_yard, the law's -/
theorem okNil : okD (.list []) = true := by
  unfold okD
  simp [PyData.plain, PyData.plainAll, PyData.depth, PyData.depthAll]
theorem okD_list {L : List D} (h1 : PyData.plainAll L = true) (h2 : PyData.depthAll L ≤ 40) : okD (.list L) = true := by
  unfold okD
  simp [PyData.plain, PyData.depth, h1]
  omega
theorem neNilD {xs : List D} (h : okD (.list xs) = true) : neD (.list xs) (.list []) = some (.bool (!xs.isEmpty)) := by
  unfold neD
  rw [h, okNil]
  cases xs with
  | nil => simp [PyData.eqv, PyData.eqvAll]
  | cons n ns => simp [PyData.eqv, PyData.eqvAll]
theorem depthAll_filter (P : D → Bool) : ∀ xs : List D, PyData.depthAll (xs.filter P) ≤ PyData.depthAll xs
  | [] => Nat.le_refl _
  | x :: xs => by
    have ih := depthAll_filter P xs
    cases h : P x with
    | true =>
      rw [List.filter_cons_of_pos h]
      simp [PyData.depthAll]
      omega
    | false =>
      rw [List.filter_cons_of_neg (by rw [h]; exact Bool.false_ne_true)]
      simp [PyData.depthAll]
      omega
theorem plainAll_filter (P : D → Bool) : ∀ xs : List D, PyData.plainAll xs = true → PyData.plainAll (xs.filter P) = true
  | [], _ => rfl
  | x :: xs, h => by
    simp [PyData.plainAll] at h
    have ih := plainAll_filter P xs h.2
    cases k : P x with
    | true =>
      rw [List.filter_cons_of_pos k]
      simp [PyData.plainAll, h.1, ih]
    | false =>
      rw [List.filter_cons_of_neg (by rw [k]; exact Bool.false_ne_true)]
      exact ih
theorem ninIs' (p : Int) (L : List Int) : inN (.int p) (.list (L.map .int)) = some (.bool (!decide (p ∈ L))) := by
  unfold inN
  rw [inIs']
  rfl
theorem ints_ne (ns : List Int) (h : ns.length ≤ 1000000) : neD (.list (ns.map .int)) (.list []) = some (.bool (!ns.isEmpty)) := by
  rw [neNilD (by
    unfold okD
    simp [PyData.plain, PyData.depth, plainG, depthG])]
  cases ns <;> rfl
def at_ (ls : List Lk) (i : Nat) : Lk := (ls[i]?).getD (0, 0, 0)
theorem at_get {ls : List Lk} {i : Nat} (h : i < ls.length) : ls[i]? = some (at_ ls i) := by
  unfold at_
  rw [List.getElem?_eq_getElem h]
  rfl
theorem cons2_at (ls : List Lk) : cons2 ls = (List.range (ls.length - 1)).map fun i => (at_ ls i, at_ ls (i + 1)) := by
  unfold cons2
  refine List.ext_getElem? fun i => ?_
  rw [List.getElem?_map]
  by_cases h : i < ls.length - 1
  · have a := at_get (ls := ls) (i := i) (by omega)
    have b := at_get (ls := ls) (i := i + 1) (by omega)
    have z : (ls.zip ls.tail)[i]? = some (at_ ls i, at_ ls (i + 1)) := List.getElem?_zip_eq_some.mpr ⟨a, by rw [List.getElem?_tail]; exact b⟩
    rw [List.getElem?_range h, z]
    rfl
  · rw [List.getElem?_eq_none (by rw [List.length_zip, List.length_tail]; omega), List.getElem?_eq_none (by rw [List.length_range]; omega)]
    rfl
def prs (ls : List Lk) : D := .list (ls.map fun l => .tuple [.int l.1, .int l.2.1])
theorem prs_ix {ls : List Lk} {i : Nat} (h : i < ls.length) : ixD (prs ls) (.int i) = some (.tuple [.int (at_ ls i).1, .int (at_ ls i).2.1]) := by
  show (ixNat (ls.map _).length (i : Int)).bind _ = _
  have e1 : ixNat (ls.map fun l => PyData.tuple [.int l.1, .int l.2.1]).length (i : Int) = some i := by
    unfold ixNat
    rw [if_pos (by omega), if_pos (by rw [List.length_map]; omega)]
    simp
  rw [e1]
  show (ls.map fun l => PyData.tuple [.int l.1, .int l.2.1])[i]? = _
  rw [List.getElem?_map, at_get h]
  rfl
noncomputable def bd_lc : SF := (Dn.sSeq (Dn.sIf (Dn.tAndF (Dn.asB (Dn.e2 Dn.inD (Dn.eVarW 4) (Dn.eVarW 3))) (Dn.asB (Dn.e2 Dn.inN (Dn.eVarW 5) (Dn.eVarW 3)))) (Dn.sApp 3 (Dn.eVar 5)) Dn.sNx)
    (Dn.sIf (Dn.tAndF (Dn.asB (Dn.e2 Dn.inD (Dn.eVarW 5) (Dn.eVarW 3))) (Dn.asB (Dn.e2 Dn.inN (Dn.eVarW 4) (Dn.eVarW 3)))) (Dn.sApp 3 (Dn.eVar 4)) Dn.sNx))
theorem st_lc (y s1 s2 : Option Sl) (M : List Int) (l : Lk) (s6 : Option Sl) (hM : M.length ≤ 1000) (hl : l.1 ≠ l.2.1) : bd_lc [y, s1, s2, some (.own (msD M)), some (.dat (.int l.1)), some (.dat (.int l.2.1)), s6] = some (.nx [y, s1, s2, some (.own (msD (st1 M l))), some (.dat (.int l.1)), some (.dat (.int l.2.1)), s6]) := by
  have i1 := inIs' l.1 M
  have i2 := inIs' l.2.1 M
  have n1 := ninIs' l.1 M
  have n2 := ninIs' l.2.1 M
  have hlt : (msD M).length < 1000000 := by
    unfold msD
    rw [List.length_map]
    omega
  have ap : ∀ x : Int, msD (M ++ [x]) = msD M ++ [.int x] := fun x => by
    unfold msD
    rw [List.map_append]
    rfl
  unfold bd_lc
  by_cases h1 : l.1 ∈ M
  · by_cases h2 : l.2.1 ∈ M
    · have e : st1 M l = M := if_neg (by simp [h1, h2])
      rw [e]
      simp [tAndF, msD, i1, i2, n1, n2, h1, h2]
    · have e : st1 M l = M ++ [l.2.1] := by
        unfold st1
        rw [if_pos (by simp [h1, h2]), if_neg h2]
      have i1' := inIs' l.1 (M ++ [l.2.1])
      have i2' := inIs' l.2.1 (M ++ [l.2.1])
      have n1' := ninIs' l.1 (M ++ [l.2.1])
      rw [seq_nx (ρ' := [y, s1, s2, some (.own (msD (M ++ [l.2.1]))), some (.dat (.int l.1)), some (.dat (.int l.2.1)), s6]) (by
        rw [ap]
        have ht : tAndF (Dn.asB (Dn.e2 Dn.inD (Dn.eVarW 4) (Dn.eVarW 3))) (Dn.asB (Dn.e2 Dn.inN (Dn.eVarW 5) (Dn.eVarW 3))) [y, s1, s2, some (.own (msD M)), some (.dat (.int l.1)), some (.dat (.int l.2.1)), s6] = some (.ok true) := by
          simp [tAndF, msD, i1, n2, h1, h2]
        rw [ev_sIf, ht, bS_ok, if_pos rfl, ev_sApp]
        simp [hlt])]
      have ht : tAndF (Dn.asB (Dn.e2 Dn.inD (Dn.eVarW 5) (Dn.eVarW 3))) (Dn.asB (Dn.e2 Dn.inN (Dn.eVarW 4) (Dn.eVarW 3))) [y, s1, s2, some (.own (msD (M ++ [l.2.1]))), some (.dat (.int l.1)), some (.dat (.int l.2.1)), s6] = some (.ok false) := by
        simp [tAndF, msD]
        simp at i2' n1'
        simp [i2', n1', h1]
      rw [ev_sIf, ht, bS_ok, if_neg Bool.false_ne_true, e]
      rfl
  · by_cases h2 : l.2.1 ∈ M
    · have e : st1 M l = M ++ [l.1] := by
        unfold st1
        rw [if_pos (by simp [h1, h2]), if_pos h2]
      rw [seq_nx (ρ' := [y, s1, s2, some (.own (msD M)), some (.dat (.int l.1)), some (.dat (.int l.2.1)), s6]) (by
        simp [tAndF, msD, i1, h1])]
      have ht : tAndF (Dn.asB (Dn.e2 Dn.inD (Dn.eVarW 5) (Dn.eVarW 3))) (Dn.asB (Dn.e2 Dn.inN (Dn.eVarW 4) (Dn.eVarW 3))) [y, s1, s2, some (.own (msD M)), some (.dat (.int l.1)), some (.dat (.int l.2.1)), s6] = some (.ok true) := by
        simp [tAndF, msD, i2, n1, h1, h2]
      rw [ev_sIf, ht, bS_ok, if_pos rfl, ev_sApp, e, ap]
      simp [hlt]
    · have e : st1 M l = M := if_neg (by simp [h1, h2])
      rw [e]
      simp [tAndF, msD, i1, i2, n1, n2, h1, h2]
theorem itn_succ' (s : List Lk) : ∀ (n : Nat) (M : List Int), itn s (n + 1) M = ps s (itn s n M)
  | 0, M => rfl
  | n + 1, M => by
    show itn s (n + 1) (ps s M) = _
    rw [itn_succ' s n (ps s M)]
    rfl
noncomputable def bd_lo : SF := Dn.sFor (Dn.iSeq (Dn.eVar 1)) (Dn.gTup [4, 5]) bd_lc
theorem st_lo {c : Int} {s : List Lk} (r : LR c s) (h0 : 0 ≤ c) (hc : c ≤ 100) {M : List Int} (g : Gd c s M) (y s2 s4 s5 s6 : Option Sl) : ∃ s4' s5', bd_lo [y, some (.dat (prs s)), s2, some (.own (msD M)), s4, s5, s6] = some (.nx [y, some (.dat (prs s)), s2, some (.own (msD (ps s M))), s4', s5', s6]) := by
  obtain ⟨ρ', hf, s4', s5', rfl⟩ := forL_I (g := gTup [4, 5]) (b := bd_lc) (fun l : Lk => PyData.tuple [.int l.1, .int l.2.1]) (fun pre ρ => ∃ s4 s5, ρ = [y, some (.dat (prs s)), s2, some (.own (msD (ps pre M))), s4, s5, s6]) s [] [y, some (.dat (prs s)), s2, some (.own (msD M)), s4, s5, s6] ⟨s4, s5, rfl⟩ (by
    rintro pr x po ρ hp ⟨s4, s5, rfl⟩
    rw [List.nil_append] at hp
    have hpre : ∀ l ∈ pr, l ∈ s := fun l hl => by
      rw [hp]
      exact List.mem_append_left _ hl
    have hx : x ∈ s := by
      rw [hp]
      exact List.mem_append_right _ List.mem_cons_self
    have g1 := g.ps r pr hpre
    have hl1 := g1.le h0
    have hne : x.1 ≠ x.2.1 := by
      have := (r x hx).2.1
      omega
    refine ⟨_, _, rfl, st_lc y (some (.dat (prs s))) s2 (ps pr M) x s6 (by omega) hne, some (.dat (.int x.1)), some (.dat (.int x.2.1)), ?_⟩
    rw [ps_app])
  exact ⟨s4', s5', hf⟩
theorem ev_Lisyard {d : D} (hd : d.plain = true) (hdp : d.depth ≤ 40) (hlen : ∀ c xs, d = .tuple [c, .tuple xs] → xs.length ≤ 1000) : Dg.L_is_yard [d] = some (.ok (.bool (yrB d))) := by
  refine runF_ok rfl ?_
  show Dg.b_L_is_yard [some (.dat d), none, none, none, none, none, none] = _
  by_cases h1 : ∃ c e, d = .tuple [.int c, e] ∧ 1 ≤ c ∧ c ≤ 5
  · obtain ⟨c, e, rfl, hc1, hc5⟩ := h1
    simp [PyData.plain, PyData.plainAll] at hd
    simp [PyData.depth, PyData.depthAll] at hdp
    have x0 : ixD (.tuple [.int c, e]) (.int 0) = some (.int c) := rfl
    have x1 : ixD (.tuple [.int c, e]) (.int 1) = some e := rfl
    unfold Dg.b_L_is_yard
    rw [seq_nx (ρ' := [some (.dat (.tuple [.int c, e])), none, none, none, none, none, none]) (by
      have hn : Dg.L_number [.int c, .int 1, .int 5] = some (.ok (.bool true)) := by
        rw [ev_Lnum rfl]
        simp [nmB, hc1, hc5]
      simp [isiD, lenD, tOrF, tNotF, hn])]
    by_cases h3 : ∃ xs, e = .tuple xs
    · obtain ⟨xs, rfl⟩ := h3
      have hll := hlen _ _ rfl
      simp [PyData.plain] at hd
      simp [PyData.depth] at hdp
      have hpl := plainAll_mem hd
      have ea := comp_if (it := iSeq (e2 ixD (eVarW 0) (eC (.int 1)))) (g := gName 6) (t := tNotF (asB (eCall Dg.L_is_link (aCons (eVar 6) (aCons (e2 ixD (eVarW 0) (eC (.int 0))) aNil))))) (f := eVar 6) (vs := [6]) (ρ := [some (.dat (.tuple [.int c, .tuple xs])), none, none, none, none, none, none]) id xs (fun x => !lkB x c) (fun x => x) (by
        rw [List.map_id]
        simp) (by omega) (fun x hx => ⟨[some (.dat (.tuple [.int c, .tuple xs])), none, none, none, none, none, some (.dat x)], rfl, by
        have := ev_Llink (hpl x hx) c
        simp [this, tNotF], fun _ => rfl⟩)
      rw [List.map_id'] at ea
      have hok : okD (.list (xs.filter fun x => !lkB x c)) = true := by
        have k1 := plainAll_filter (fun x => !lkB x c) xs hd
        have k2 := depthAll_filter (fun x => !lkB x c) xs
        exact okD_list k1 (Nat.le_trans k2 (by omega))
      have eb := e2_of ea (fb := eLst aNil) (b := .list []) (by simp) (neNilD hok)
      have ei : asB (e1 (isiD 2) (e2 ixD (eVarW 0) (eC (.int 1)))) [some (.dat (.tuple [.int c, .tuple xs])), none, none, none, none, none, none] = some (.ok true) := by simp [isiD]
      have ec : tOrF (tNotF (asB (e1 (isiD 2) (e2 ixD (eVarW 0) (eC (.int 1)))))) (asB (e2 neD (eComp (iSeq (e2 ixD (eVarW 0) (eC (.int 1)))) (gName 6) (tNotF (asB (eCall Dg.L_is_link (aCons (eVar 6) (aCons (e2 ixD (eVarW 0) (eC (.int 0))) aNil))))) (eVar 6) [6]) (eLst aNil))) [some (.dat (.tuple [.int c, .tuple xs])), none, none, none, none, none, none] = some (.ok (!(xs.filter fun x => !lkB x c).isEmpty)) := by
        simp only [tOrF, tNotF]
        rw [ei]
        simp only [bnd_ok, Bool.not_true, ev_ret]
        rw [ev_asB, eb]
        rfl
      by_cases h2 : ∀ x ∈ xs, lkB x c = true
      · obtain ⟨ls, rfl, hls⟩ := all_enc h2
        have hem : ((ls.map encL).filter fun x => !lkB x c) = [] := List.filter_eq_nil_iff.mpr fun x hx => by simp [h2 x hx]
        rw [hem] at ec
        rw [seq_nx (ρ' := [some (.dat (.tuple [.int c, .tuple (ls.map encL)])), none, none, none, none, none, none]) (by
          rw [ev_sIf, ec]
          rfl)]
        rw [List.length_map] at hll
        rw [show PyData.tuple [.int c, .tuple (ls.map encL)] = encY c ls from rfl]
        have y0 : ixD (encY c ls) (.int 0) = some (.int c) := rfl
        have y1 : ixD (encY c ls) (.int 1) = some (encLs ls) := rfl
        rw [seq_nx (ρ' := [some (.dat (encY c ls)), some (.dat (prs ls)), none, none, none, none, none]) (by
          rw [ev_sAsg, pairs_comp ls hll (by simp [y1, encLs]) (by simp)]
          rfl)]
        have hrg : iRng2 (eC (.int 1)) (e1 lenD (eVarW 1)) [some (.dat (encY c ls)), some (.dat (prs ls)), none, none, none, none, none] = some (.ok ((List.range (ls.length - 1)).map fun (i : Nat) => PyData.int ((i : Int) + 1))) := by
          have hl : lenD (prs ls) = some (.int ls.length) := by
            show some (PyData.int (ls.map _).length) = _
            rw [List.length_map]
          have hr : rangeD (.int 1) (.int ls.length) = some ((List.range (ls.length - 1)).map fun (i : Nat) => PyData.int ((i : Int) + 1)) := by
            have e : (rgOk 1 && rgOk ls.length) = true := by
              simp [rgOk]
              omega
            show (if (rgOk 1 && rgOk ls.length) = true then some (rgL 1 ls.length) else none) = _
            rw [if_pos e]
            unfold rgL
            rw [show ((ls.length : Int) - 1).toNat = ls.length - 1 by omega]
            refine congrArg some (List.map_congr_left fun i _ => ?_)
            rw [Int.add_comm]
          simp [hl, hr]
        have ed := comp_if (it := iRng2 (eC (.int 1)) (e1 lenD (eVarW 1))) (g := gName 2) (t := asB (e2 geD (e2 ixD (eVarW 1) (e2 subD (eVarW 2) (eC (.int 1)))) (e2 ixD (eVarW 1) (eVarW 2)))) (f := eVar 2) (vs := [2]) (ρ := [some (.dat (encY c ls)), some (.dat (prs ls)), none, none, none, none, none]) (fun i : Nat => PyData.int ((i : Int) + 1)) (List.range (ls.length - 1)) (fun i => !lt2 (at_ ls i) (at_ ls (i + 1))) (fun i => .int ((i : Int) + 1)) hrg (by rw [List.length_range]; omega) (fun i hi => ⟨[some (.dat (encY c ls)), some (.dat (prs ls)), some (.dat (.int ((i : Int) + 1))), none, none, none, none], rfl, by
          have hi' := List.mem_range.mp hi
          have k1 := prs_ix (ls := ls) (i := i) (by omega)
          have k2 := prs_ix (ls := ls) (i := i + 1) (by omega)
          rw [show (((i + 1 : Nat)) : Int) = (i : Int) + 1 from Int.natCast_succ i] at k2
          simp [k1, k2, ge2_D], fun _ => rfl⟩)
        have hmi : (((List.range (ls.length - 1)).filter fun i => !lt2 (at_ ls i) (at_ ls (i + 1))).map fun (i : Nat) => PyData.int ((i : Int) + 1)) = (((List.range (ls.length - 1)).filter fun i => !lt2 (at_ ls i) (at_ ls (i + 1))).map fun (i : Nat) => (i : Int) + 1).map .int := by
          rw [List.map_map]
          rfl
        rw [hmi] at ed
        have ee := e2_of ed (fb := eLst aNil) (b := .list []) (by simp) (ints_ne _ (by
          rw [List.length_map]
          have := List.length_filter_le (fun i => !lt2 (at_ ls i) (at_ ls (i + 1))) (List.range (ls.length - 1))
          rw [List.length_range] at this
          omega))
        have hob : (!((((List.range (ls.length - 1)).filter fun i => !lt2 (at_ ls i) (at_ ls (i + 1))).map fun (i : Nat) => (i : Int) + 1)).isEmpty) = !ordB ls := by
          congr 1
          rw [Bool.eq_iff_iff, List.isEmpty_iff, List.map_eq_nil_iff, List.filter_eq_nil_iff]
          unfold ordB
          rw [cons2_at, List.all_eq_true]
          constructor
          · intro h p hp
            obtain ⟨i, hi, rfl⟩ := List.mem_map.mp hp
            have := h i hi
            simpa using this
          · intro h i hi
            have := h _ (List.mem_map.mpr ⟨i, hi, rfl⟩)
            simpa using this
        rw [hob] at ee
        cases ho : ordB ls with
        | false =>
          rw [yrB_false fun c' ls' e y => by
            obtain ⟨rfl, rfl⟩ := encY_inj e
            rw [y.od] at ho
            cases ho]
          rw [ho] at ee
          rw [seq_rt (d := .bool false) (by
            rw [ev_sIf, ev_asB, ee]
            rfl)]
        | true =>
          rw [ho] at ee
          rw [seq_nx (ρ' := [some (.dat (encY c ls)), some (.dat (prs ls)), none, none, none, none, none]) (by
            rw [ev_sIf, ev_asB, ee]
            rfl)]
          rw [seq_nx (ρ' := [some (.dat (encY c ls)), some (.dat (prs ls)), none, some (.own [.int 0]), none, none, none]) (by simp)]
          have r : LR c ls := fun l hl => ⟨(hls l hl).1, (hls l hl).2.1, (hls l hl).2.2.1⟩
          obtain ⟨ρ', hf, s2, s4, s5, rfl⟩ := forL_I (g := gName 2) (b := bd_lo) (fun p => PyData.int (p - 1)) (fun pre ρ => ∃ s2 s4 s5, ρ = [some (.dat (encY c ls)), some (.dat (prs ls)), s2, some (.own (msD (itn ls pre.length [0]))), s4, s5, none]) (nums c) [] [some (.dat (encY c ls)), some (.dat (prs ls)), none, some (.own [.int 0]), none, none, none] ⟨none, none, none, rfl⟩ (by
            rintro pr x po ρ hp ⟨s2, s4, s5, rfl⟩
            obtain ⟨s4', s5', h⟩ := st_lo r (by omega) (by omega) (Gd.itn r pr.length (Gd.zero c ls (by omega))) (some (.dat (encY c ls))) (some (.dat (.int (x - 1)))) s4 s5 none
            refine ⟨_, _, rfl, h, some (.dat (.int (x - 1))), s4', s5', ?_⟩
            rw [List.length_append, List.length_singleton, itn_succ'])
          rw [List.nil_append, nums_len] at hf
          have g := Gd.itn r c.toNat (Gd.zero c ls (by omega))
          have hor := itn_or ls c.toNat [0]
          have hiff := g.conn (by omega) r (by
            rcases hor with h | h
            · exact .inl h
            · right
              simp at h
              omega)
          generalize itn ls c.toNat [0] = M at hf hiff
          rw [seq_nx (by
            rw [ev_sFor]
            simp only [ev_iRng1, ev_e2, ev_c, ev_varW, List.getElem?_cons_zero, ev_ret, bnd_ok, y0, lft_some, rng0 (c := c) (by omega) (by omega), bS_ok]
            exact hf)]
          have hl : lenD (.list (msD M)) = some (.int M.length) := by
            show some (PyData.int (M.map PyData.int).length) = _
            rw [List.length_map]
          have e : ((M.length : Int) == c + 1) = yrB (encY c ls) := by
            rw [Bool.eq_iff_iff, beq_iff_eq, yrB_enc]
            constructor
            · intro h
              exact ⟨hc1, hc5, hls, ho, hiff.mp (by omega)⟩
            · intro y
              have := hiff.mpr y.cn
              omega
          simp [hl, e, y0]
      · have hf : yrB (.tuple [.int c, .tuple xs]) = false := yrB_false fun c' ls' ee y => by
          unfold encY encLs at ee
          injection ee with ee
          simp at ee
          obtain ⟨rfl, rfl⟩ := ee
          exact h2 fun x hx => by
            obtain ⟨l, hl, rfl⟩ := List.mem_map.mp hx
            exact lkB_of (y.lk l hl)
        rw [hf]
        have hne : (!(xs.filter fun x => !lkB x c).isEmpty) = true := by
          cases k : (xs.filter fun x => !lkB x c).isEmpty with
          | false => rfl
          | true =>
            exfalso
            rw [List.isEmpty_iff, List.filter_eq_nil_iff] at k
            exact h2 fun x hx => by simpa using k x hx
        rw [hne] at ec
        rw [seq_rt (d := .bool false) (by
          rw [ev_sIf, ec]
          rfl)]
    · have hf : yrB (.tuple [.int c, e]) = false := yrB_false fun c' ls' ee y => by
        unfold encY encLs at ee
        injection ee with ee
        simp at ee
        exact h3 ⟨_, ee.2⟩
      rw [hf]
      rw [seq_rt (d := .bool false) (by
        cases e with
        | tuple xs => exact absurd ⟨xs, rfl⟩ h3
        | int i => simp [isiD, tOrF, tNotF]
        | bool i => simp [isiD, tOrF, tNotF]
        | none => simp [isiD, tOrF, tNotF]
        | str i => simp [isiD, tOrF, tNotF]
        | list i => simp [isiD, tOrF, tNotF]
        | dict i => simp [PyData.plain] at hd)]
  · have hf : yrB d = false := yrB_false fun c ls e y => h1 ⟨c, encLs ls, e, y.c1, y.c5⟩
    rw [hf]
    unfold Dg.b_L_is_yard
    rw [seq_rt (d := .bool false) (by
      cases d with
      | tuple xs =>
        by_cases h2 : xs.length = 2
        · match xs, h2, hd, h1 with
          | [a, b], _, hd, h1 =>
            simp [PyData.plain, PyData.plainAll] at hd
            have hn : Dg.L_number [a, .int 1, .int 5] = some (.ok (.bool false)) := by
              rw [ev_Lnum hd.1]
              have : nmB a 1 5 = false := by
                cases a with
                | int i =>
                  cases k : nmB (.int i) 1 5 with
                  | false => rfl
                  | true =>
                    simp [nmB] at k
                    exact absurd ⟨i, b, rfl, k.1, k.2⟩ h1
                | bool i => rfl
                | none => rfl
                | str i => rfl
                | list i => rfl
                | tuple i => rfl
                | dict i => rfl
              rw [this]
            simp [isiD, lenD, tOrF, tNotF, hn]
        · have h2' : ¬ ((xs.length : Int) = 2) := by omega
          simp [isiD, lenD, tOrF, tNotF, h2']
      | int i => simp [isiD, tOrF, tNotF]
      | bool i => simp [isiD, tOrF, tNotF]
      | none => simp [isiD, tOrF, tNotF]
      | str i => simp [isiD, tOrF, tNotF]
      | list i => simp [isiD, tOrF, tNotF]
      | dict i => simp [PyData.plain] at hd)]
end Pe

set_option maxHeartbeats 4400000
namespace Pe
open Dn
open PySem (PyData)
/-! ### spoilt data -/
/-- what is spoilt: whole numbers, tuples -/
inductive Ni (L : Nat) : Nat → D → Prop
  | int {n : Nat} {i : Int} (h : -1000000000000 ≤ i ∧ i ≤ 1000000000000) : Ni L n (.int i)
  | tup {n : Nat} {xs : List D} (hl : xs.length ≤ L) (h : ∀ x ∈ xs, Ni L n x) : Ni L (n + 1) (.tuple xs)
/-- what comes of it -/
inductive Oc (L : Nat) : Nat → D → Prop
  | int {n : Nat} {i : Int} : Oc L n (.int i)
  | bool {n : Nat} {i : Bool} : Oc L n (.bool i)
  | none {n : Nat} : Oc L n .none
  | str {n : Nat} {i : PySem.Str} : Oc L n (.str i)
  | tup {n : Nat} {xs : List D} (hl : xs.length ≤ L) (h : ∀ x ∈ xs, Oc L n x) : Oc L (n + 1) (.tuple xs)
  | lst {n : Nat} {xs : List D} (hl : xs.length ≤ L) (h : ∀ x ∈ xs, Oc L n x) : Oc L (n + 1) (.list xs)
theorem Oc.mono {L L' n : Nat} {d : D} (o : Oc L n d) (h : L ≤ L') : ∀ {n' : Nat}, n ≤ n' → Oc L' n' d := by
  induction o with
  | int => intro _ _; exact .int
  | bool => intro _ _; exact .bool
  | none => intro _ _; exact .none
  | str => intro _ _; exact .str
  | tup hl _ ih =>
    intro n' hn
    cases n' with
    | zero => omega
    | succ n' => exact .tup (by omega) fun x hx => ih x hx (by omega)
  | lst hl _ ih =>
    intro n' hn
    cases n' with
    | zero => omega
    | succ n' => exact .lst (by omega) fun x hx => ih x hx (by omega)
theorem Ni.oc {L n : Nat} {d : D} (o : Ni L n d) : Oc L n d := by
  induction o with
  | int _ => exact .int
  | tup hl _ ih => exact .tup hl ih
theorem plainAll_of : ∀ {xs : List D}, (∀ x ∈ xs, x.plain = true) → PyData.plainAll xs = true
  | [], _ => rfl
  | x :: xs, h => by
    simp only [PyData.plainAll]
    rw [h x List.mem_cons_self, plainAll_of fun y hy => h y (List.mem_cons_of_mem _ hy)]
    rfl
theorem depthAll_of {n : Nat} : ∀ {xs : List D}, (∀ x ∈ xs, x.depth ≤ n) → PyData.depthAll xs ≤ n
  | [], _ => Nat.zero_le _
  | x :: xs, h => by
    have h1 := h x List.mem_cons_self
    have h2 := depthAll_of fun y hy => h y (List.mem_cons_of_mem _ hy)
    simp only [PyData.depthAll]
    omega
theorem Oc.plain {L n : Nat} {d : D} (o : Oc L n d) : d.plain = true := by
  induction o with
  | int => rfl
  | bool => rfl
  | none => rfl
  | str => rfl
  | tup hl _ ih =>
    simp only [PyData.plain]
    exact plainAll_of ih
  | lst hl _ ih =>
    simp only [PyData.plain]
    exact plainAll_of ih
theorem Oc.depth {L n : Nat} {d : D} (o : Oc L n d) : d.depth ≤ n := by
  induction o with
  | int => exact Nat.zero_le _
  | bool => exact Nat.zero_le _
  | none => exact Nat.zero_le _
  | str => exact Nat.zero_le _
  | tup hl _ ih =>
    have := depthAll_of ih
    simp only [PyData.depth]
    omega
  | lst hl _ ih =>
    have := depthAll_of ih
    simp only [PyData.depth]
    omega
theorem ix_in {xs : List D} {i : Int} (h0 : 0 ≤ i) (h1 : i < xs.length) : ∃ x, x ∈ xs ∧ ixD (.list xs) (.int i) = some x ∧ ixD (.tuple xs) (.int i) = some x := by
  have hl : i.toNat < xs.length := by omega
  have e1 : ixNat xs.length i = some i.toNat := by
    unfold ixNat
    rw [if_pos h0, if_pos h1]
  refine ⟨xs[i.toNat], List.getElem_mem hl, ?_, ?_⟩
  · show (ixNat xs.length i).bind _ = _
    rw [e1]
    exact List.getElem?_eq_getElem hl
  · show (ixNat xs.length i).bind _ = _
    rw [e1]
    exact List.getElem?_eq_getElem hl
theorem emod_in {a b : Int} (h : 0 < b) : 0 ≤ a % b ∧ a % b < b := ⟨Int.emod_nonneg _ (by omega), Int.emod_lt_of_pos _ h⟩
theorem ev_odd {L : Nat} (hL : 3 ≤ L) (m : Int) : ∃ d, Dg.L_odd [.int m] = some (.ok d) ∧ Oc L 2 d := by
  let xs : List D := [.int (-1), .int 0, .int 1, .int 3, .int 4, .int 5, .int 6, .bool true, .bool false, .none, .str "", .str "1", .tuple [], .list [], .tuple [.int 0, .int 1, .int 1], .tuple [.int 1, .int 0, .int 1], .tuple [.int 0, .int 1], .tuple [.tuple [.int 0, .int 1, .int 1]]]
  have hb := emod_in (a := m) (b := 18) (by decide)
  obtain ⟨x, hx, he, _⟩ := ix_in (xs := xs) (i := m % 18) hb.1 hb.2
  refine ⟨x, runF_ok rfl ?_, ?_⟩
  · show Dg.b_L_odd [some (.dat (.int m)), none] = _
    unfold Dg.b_L_odd
    rw [seq_nx (ρ' := [some (.dat (.int m)), some (.dat (.list xs))]) (by simp [negD, xs])]
    simp [modI (show (0 : Int) < 18 by decide), he]
  · have t0 : ∀ {n : Nat} {ys : List Int}, ys.length ≤ 3 → Oc L (n + 1) (.tuple (ys.map .int)) := fun {n ys} h => .tup (by rw [List.length_map]; omega) fun x hx => by
      obtain ⟨y, _, rfl⟩ := List.mem_map.mp hx
      exact .int
    have tt : Oc L 2 (.tuple [.tuple [.int 0, .int 1, .int 1]]) := .tup (by simp; omega) fun x hx => by
      rw [List.mem_singleton.mp hx]
      exact t0 (ys := [0, 1, 1]) (by decide)
    simp only [xs, List.mem_cons, List.not_mem_nil, or_false] at hx
    rcases hx with rfl | rfl | rfl | rfl | rfl | rfl | rfl | rfl | rfl | rfl | rfl | rfl | rfl | rfl | rfl | rfl | rfl | rfl
    · exact .int
    · exact .int
    · exact .int
    · exact .int
    · exact .int
    · exact .int
    · exact .int
    · exact .bool
    · exact .bool
    · exact .none
    · exact .str
    · exact .str
    · exact .tup (by simp) fun x hx => by cases hx
    · exact .lst (by simp) fun x hx => by cases hx
    · exact t0 (ys := [0, 1, 1]) (by decide)
    · exact t0 (ys := [1, 0, 1]) (by decide)
    · exact t0 (ys := [0, 1]) (by decide)
    · exact tt
theorem cut_last {α : Type} (xs : List α) : ∃ ys, cutL xs (some (-1)) none = ys ∧ ys.length ≤ 1 ∧ ∀ y ∈ ys, y ∈ xs := by
  have e : cutL xs (some (-1)) none = xs.drop (xs.length - 1) := by
    unfold cutL sIx
    have e : HT.sIx xs.length 0 (some (-1)) = xs.length - 1 := by
      unfold HT.sIx
      first
      | (simp; done)
      | (simp; omega)
      | (split <;> omega)
    rw [HT.sIx_none, e, List.take_of_length_le]
    rw [List.length_drop]
    omega
  exact ⟨_, e, by rw [List.length_drop]; omega, fun y hy => List.mem_of_mem_drop hy⟩
theorem fdivI {a b : Int} (h : 0 < b ∧ b < 1073741824) : fdivD (.int a) (.int b) = some (.int (a / b)) := if_pos h
theorem ev_spoilt {L : Nat} (h3 : 3 ≤ L) (hL : L ≤ 400) : ∀ (f n : Nat) (d : D) (k deep : Int), Ni L n d → 0 ≤ k → 0 ≤ deep → deep < f → ∃ r, Dg.L_spoilt f [d, .int k, .int deep] = some (.ok r) ∧ Oc (2 * L) (n + 2) r
  | 0, n, d, k, deep, _, _, h1, h2 => by omega
  | f + 1, n, d, k, deep, o, hk, h1, h2 => by
    have d6 := fdivI (a := k) (b := 6) (by decide)
    have d12 := fdivI (a := k) (b := 12) (by decide)
    have m6 : modD (.int k) (.int 6) = some (.int (k % 6)) := modI (by decide)
    have hk6 : 0 ≤ k / 6 := Int.ediv_nonneg hk (by decide)
    have hodd : ∀ nn, ∃ r, Dg.L_odd [.int (k / 6)] = some (.ok r) ∧ Oc (2 * L) (nn + 2) r := fun nn => by
      obtain ⟨r, h1, h2⟩ := ev_odd (L := 2 * L) (by omega) (k / 6)
      exact ⟨r, h1, h2.mono (Nat.le_refl _) (by omega)⟩
    cases o with
    | int hi =>
      rename_i i
      by_cases hp : k / 6 % 2 = 0
      · obtain ⟨z, hs⟩ : ∃ z, strD (.int i) = some (.str z) := by
          have : i.natAbs.log2 < 1920 := by
            by_cases h0 : i.natAbs = 0
            · rw [h0]
              decide
            · rw [Nat.log2_lt h0]
              have h40 : i.natAbs < 2 ^ 40 := by
                have : (2 : Nat) ^ 40 = 1099511627776 := by decide
                omega
              exact Nat.lt_of_lt_of_le h40 (Nat.pow_le_pow_right (by decide) (by decide))
          exact ⟨_, if_pos this⟩
        let xs : List D := [.str z, .int (-i), .int (i + 1), .bool (i == 1), .int (i - 1)]
        have hb := emod_in (a := k / 12) (b := 5) (by decide)
        obtain ⟨x, hx, he, _⟩ := ix_in (xs := xs) (i := k / 12 % 5) hb.1 hb.2
        refine ⟨x, runF_ok rfl ?_, ?_⟩
        · show Dg.b_L_spoilt _ [some (.dat (.int i)), some (.dat (.int k)), some (.dat (.int deep)), none, none] = _
          unfold Dg.b_L_spoilt
          rw [seq_nx (ρ' := [some (.dat (.int i)), some (.dat (.int k)), some (.dat (.int deep)), none, none]) (by
            by_cases hd : 0 < deep
            · simp [tAndF, isiD, hd]
            · simp [tAndF, hd])]
          rw [seq_nx (ρ' := [some (.dat (.int i)), some (.dat (.int k)), some (.dat (.int deep)), none, none]) (by simp [tAndF, isiD])]
          rw [seq_rt (d := x) (by
            rw [ev_sIf]
            have ht : tAndF (Dn.asB (Dn.e1 (Dn.isiD 0) (Dn.eVarW 0))) (Dn.asB (Dn.e2 Dn.eqD (Dn.e2 Dn.modD (Dn.e2 Dn.fdivD (Dn.eVarW 1) (Dn.eC (.int 6))) (Dn.eC (.int 2))) (Dn.eC (.int 0)))) [some (.dat (.int i)), some (.dat (.int k)), some (.dat (.int deep)), none, none] = some (.ok true) := by
              simp [tAndF, isiD, d6, modI (show (0 : Int) < 2 by decide), hp]
            rw [ht, bS_ok, if_pos rfl]
            have he' : ixD (.list [.str z, .int (-i), .int (i + 1), .bool (i == 1), .int (i - 1)]) (.int (k / 12 % 5)) = some x := he
            simp [hs, negD, d12, modI (show (0 : Int) < 5 by decide), he'])]
        · simp only [xs, List.mem_cons, List.not_mem_nil, or_false] at hx
          rcases hx with rfl | rfl | rfl | rfl | rfl
          · exact .str
          · exact .int
          · exact .int
          · exact .bool
          · exact .int
      · obtain ⟨r, hr, ho⟩ := hodd n
        refine ⟨r, runF_ok rfl ?_, ho⟩
        show Dg.b_L_spoilt _ [some (.dat (.int i)), some (.dat (.int k)), some (.dat (.int deep)), none, none] = _
        unfold Dg.b_L_spoilt
        rw [seq_nx (ρ' := [some (.dat (.int i)), some (.dat (.int k)), some (.dat (.int deep)), none, none]) (by
          by_cases hd : 0 < deep
          · simp [tAndF, isiD, hd]
          · simp [tAndF, hd])]
        rw [seq_nx (ρ' := [some (.dat (.int i)), some (.dat (.int k)), some (.dat (.int deep)), none, none]) (by simp [tAndF, isiD])]
        rw [seq_nx (ρ' := [some (.dat (.int i)), some (.dat (.int k)), some (.dat (.int deep)), none, none]) (by
          simp [tAndF, isiD, d6, modI (show (0 : Int) < 2 by decide), hp])]
        simp [d6, hr]
    | tup hl ho =>
      rename_i n xs
      have hlen : lenD (.tuple xs) = some (.int xs.length) := rfl
      by_cases hE : xs = []
      · subst hE
        obtain ⟨r, hr, hoc⟩ := hodd (n + 1)
        refine ⟨r, runF_ok rfl ?_, hoc⟩
        show Dg.b_L_spoilt _ [some (.dat (.tuple [])), some (.dat (.int k)), some (.dat (.int deep)), none, none] = _
        unfold Dg.b_L_spoilt
        rw [seq_nx (ρ' := [some (.dat (.tuple [])), some (.dat (.int k)), some (.dat (.int deep)), none, none]) (by
          by_cases hd : 0 < deep
          · simp [tAndF, isiD, hd, lenD]
          · simp [tAndF, hd])]
        rw [seq_nx (ρ' := [some (.dat (.tuple [])), some (.dat (.int k)), some (.dat (.int deep)), none, none]) (by simp [tAndF, isiD, lenD])]
        rw [seq_nx (ρ' := [some (.dat (.tuple [])), some (.dat (.int k)), some (.dat (.int deep)), none, none]) (by simp [tAndF, isiD])]
        simp [d6, hr]
      · have hpos : 0 < xs.length := List.length_pos_iff.mpr hE
        have hposI : (0 : Int) < xs.length := by omega
        by_cases hc1 : 0 < deep ∧ 0 < k % 6
        · -- a part of it is spoilt
          have hb := emod_in (a := k / 6) (b := xs.length) hposI
          obtain ⟨x, hx, _, hix⟩ := ix_in (xs := xs) hb.1 hb.2
          obtain ⟨r, hr, hoc⟩ := ev_spoilt h3 hL f n x (k / 6 / xs.length) (deep - 1) (ho x hx) (Int.ediv_nonneg hk6 (by omega)) (by omega) (by omega)
          generalize hat : k / 6 % xs.length = a at hb hix
          have e1 : a = ((a.toNat : Nat) : Int) := by omega
          have ct1 : ∀ m : Nat, m ≤ xs.length → cutD none (some (m : Int)) (.tuple xs) = some (.tuple (xs.take m)) := fun m hm => by
            show some (PyData.tuple (cutL xs none (some (m : Int)))) = _
            rw [cut_lo _ hm]
          have ct2 : ∀ m : Nat, m ≤ xs.length → cutD (some (m : Int)) none (.tuple xs) = some (.tuple (xs.drop m)) := fun m hm => by
            show some (PyData.tuple (cutL xs (some (m : Int)) none)) = _
            rw [cut_hi _ hm]
          have q1 := ct1 a.toNat (by omega)
          rw [← e1] at q1
          have q2 := ct2 (a.toNat + 1) (by omega)
          rw [show (((a.toNat + 1 : Nat)) : Int) = a + 1 by omega] at q2
          have q3 : addD (.tuple (xs.take a.toNat)) (.tuple [r]) = some (.tuple (xs.take a.toNat ++ [r])) := addTT (by rw [List.length_take, List.length_singleton]; omega)
          have q4 : addD (.tuple (xs.take a.toNat ++ [r])) (.tuple (xs.drop (a.toNat + 1))) = some (.tuple (xs.take a.toNat ++ [r] ++ xs.drop (a.toNat + 1))) := addTT (by rw [List.length_append, List.length_take, List.length_drop, List.length_singleton]; omega)
          have hdl := fdivI (a := k / 6) (b := xs.length) ⟨hposI, by omega⟩
          refine ⟨.tuple (xs.take a.toNat ++ [r] ++ xs.drop (a.toNat + 1)), runF_ok rfl ?_, ?_⟩
          · show Dg.b_L_spoilt _ [some (.dat (.tuple xs)), some (.dat (.int k)), some (.dat (.int deep)), none, none] = _
            unfold Dg.b_L_spoilt
            have ht : tAndF (Dn.asB (Dn.e2 Dn.gtD (Dn.eVarW 2) (Dn.eC (.int 0)))) (Dn.tAndF (Dn.asB (Dn.e1 (Dn.isiD 2) (Dn.eVarW 0))) (Dn.tAndF (Dn.asB (Dn.e2 Dn.gtD (Dn.e1 Dn.lenD (Dn.eVarW 0)) (Dn.eC (.int 0)))) (Dn.asB (Dn.e2 Dn.gtD (Dn.e2 Dn.modD (Dn.eVarW 1) (Dn.eC (.int 6))) (Dn.eC (.int 0)))))) [some (.dat (.tuple xs)), some (.dat (.int k)), some (.dat (.int deep)), none, none] = some (.ok true) := by
              simp [tAndF, isiD, hc1.1, hc1.2, hlen, hpos, m6]
            rw [seq_rt (d := .tuple (xs.take a.toNat ++ [r] ++ xs.drop (a.toNat + 1))) (by
              rw [ev_sIf, ht, bS_ok, if_pos rfl]
              rw [seq_nx (ρ' := [some (.dat (.tuple xs)), some (.dat (.int k)), some (.dat (.int deep)), some (.dat (.int a)), none]) (by
                simp [d6, hlen, modI hposI, hat])]
              rw [seq_nx (ρ' := [some (.dat (.tuple xs)), some (.dat (.int k)), some (.dat (.int deep)), some (.dat (.int a)), some (.dat r)]) (by
                have hr' := noX_ok' hr
                simp [d6, hlen, hix, hdl, hr'])]
              simp [eCut, oNo, oInt, intOf, q1, q2, q3]
              simp at q4
              simp [q4])]
          · refine .tup ?_ fun y hy => ?_
            · rw [List.length_append, List.length_append, List.length_take, List.length_drop, List.length_singleton]
              omega
            · rcases List.mem_append.mp hy with hy | hy
              · rcases List.mem_append.mp hy with hy | hy
                · exact (ho y (List.mem_of_mem_take hy)).oc.mono (by omega) (by omega)
                · rw [List.mem_singleton.mp hy]
                  exact hoc
              · exact (ho y (List.mem_of_mem_drop hy)).oc.mono (by omega) (by omega)
        · have hn1 : ∀ s3 s4, (Dn.sIf (Dn.tAndF (Dn.asB (Dn.e2 Dn.gtD (Dn.eVarW 2) (Dn.eC (.int 0)))) (Dn.tAndF (Dn.asB (Dn.e1 (Dn.isiD 2) (Dn.eVarW 0))) (Dn.tAndF (Dn.asB (Dn.e2 Dn.gtD (Dn.e1 Dn.lenD (Dn.eVarW 0)) (Dn.eC (.int 0)))) (Dn.asB (Dn.e2 Dn.gtD (Dn.e2 Dn.modD (Dn.eVarW 1) (Dn.eC (.int 6))) (Dn.eC (.int 0))))))) s3 s4) [some (.dat (.tuple xs)), some (.dat (.int k)), some (.dat (.int deep)), none, none] = s4 [some (.dat (.tuple xs)), some (.dat (.int k)), some (.dat (.int deep)), none, none] := fun s3 s4 => by
            by_cases hd : 0 < deep
            · have hm : ¬ 0 < k % 6 := fun h => hc1 ⟨hd, h⟩
              simp [tAndF, isiD, hd, hlen, hpos, m6, hm]
            · simp [tAndF, hd]
          by_cases hp : k / 6 % 2 = 0
          · obtain ⟨ys, c1, c2, c3⟩ := cut_last xs
            let zs : List D := [.list xs, .tuple xs.dropLast, .tuple (xs ++ ys), .tuple (xs.drop 1), .tuple xs.reverse, .tuple (xs ++ xs)]
            have hb := emod_in (a := k / 12) (b := 6) (by decide)
            obtain ⟨x, hx, he, _⟩ := ix_in (xs := zs) (i := k / 12 % 6) hb.1 hb.2
            have g1 : lstD (.tuple xs) = some (.list xs) := rfl
            have g2 : cutD none (some (-1)) (.tuple xs) = some (.tuple xs.dropLast) := by
              show some (PyData.tuple (cutL xs none (some (-1)))) = _
              rw [cut_neg]
            have g3 : cutD (some (-1)) none (.tuple xs) = some (.tuple ys) := by
              show some (PyData.tuple (cutL xs (some (-1)) none)) = _
              rw [c1]
            have g4 : addD (.tuple xs) (.tuple ys) = some (.tuple (xs ++ ys)) := addTT (by omega)
            have g5 : cutD (some 1) none (.tuple xs) = some (.tuple (xs.drop 1)) := by
              show some (PyData.tuple (cutL xs (some ((1 : Nat) : Int)) none)) = _
              rw [cut_hi _ (by omega)]
            have g6 : revD (.tuple xs) = some (.tuple xs.reverse) := rfl
            have g7 : mulD (.tuple xs) (.int 2) = some (.tuple (xs ++ xs)) := by
              show (if 1 ≤ (2 : Int) ∧ (2 : Int) ≤ 1000 ∧ xs.length ≤ 1000 ∧ xs ≠ [] then some (PyData.tuple (repL (2 : Int).toNat xs)) else none) = _
              rw [if_pos ⟨by decide, by decide, by omega, hE⟩]
              have : repL (2 : Int).toNat xs = xs ++ xs := by
                show (List.replicate 2 xs).flatten = _
                simp [List.replicate]
              rw [this]
            refine ⟨x, runF_ok rfl ?_, ?_⟩
            · show Dg.b_L_spoilt _ [some (.dat (.tuple xs)), some (.dat (.int k)), some (.dat (.int deep)), none, none] = _
              unfold Dg.b_L_spoilt
              rw [seq_nx ((hn1 _ _).trans rfl)]
              rw [seq_rt (d := x) (by
                rw [ev_sIf]
                have ht : tAndF (Dn.asB (Dn.e1 (Dn.isiD 2) (Dn.eVarW 0))) (Dn.tAndF (Dn.asB (Dn.e2 Dn.gtD (Dn.e1 Dn.lenD (Dn.eVarW 0)) (Dn.eC (.int 0)))) (Dn.asB (Dn.e2 Dn.eqD (Dn.e2 Dn.modD (Dn.e2 Dn.fdivD (Dn.eVarW 1) (Dn.eC (.int 6))) (Dn.eC (.int 2))) (Dn.eC (.int 0))))) [some (.dat (.tuple xs)), some (.dat (.int k)), some (.dat (.int deep)), none, none] = some (.ok true) := by
                  simp [tAndF, isiD, hlen, hpos, d6, modI (show (0 : Int) < 2 by decide), hp]
                rw [ht, bS_ok, if_pos rfl]
                have he' : ixD (.list [.list xs, .tuple xs.dropLast, .tuple (xs ++ ys), .tuple (xs.drop 1), .tuple xs.reverse, .tuple (xs ++ xs)]) (.int (k / 12 % 6)) = some x := he
                simp only [List.drop_one] at he' g5
                simp [eCut, oNo, oInt, intOf, negD, g1, g2, g3, g4, g5, g6, g7, d12, modI (show (0 : Int) < 6 by decide), he'])]
            · have ox : ∀ y ∈ xs, Oc (2 * L) (n + 2) y := fun y hy => (ho y hy).oc.mono (by omega) (by omega)
              simp only [zs, List.mem_cons, List.not_mem_nil, or_false] at hx
              rcases hx with rfl | rfl | rfl | rfl | rfl | rfl
              · exact .lst (by omega) ox
              · exact .tup (by rw [List.length_dropLast]; omega) fun y hy => ox y (List.dropLast_subset _ hy)
              · refine .tup (by rw [List.length_append]; omega) fun y hy => ?_
                rcases List.mem_append.mp hy with hy | hy
                · exact ox y hy
                · exact ox y (c3 y hy)
              · exact .tup (by rw [List.length_drop]; omega) fun y hy => ox y (List.mem_of_mem_drop hy)
              · exact .tup (by rw [List.length_reverse]; omega) fun y hy => ox y (List.mem_reverse.mp hy)
              · refine .tup (by rw [List.length_append]; omega) fun y hy => ?_
                rcases List.mem_append.mp hy with hy | hy
                · exact ox y hy
                · exact ox y hy
          · obtain ⟨r, hr, hoc⟩ := hodd (n + 1)
            refine ⟨r, runF_ok rfl ?_, hoc⟩
            show Dg.b_L_spoilt _ [some (.dat (.tuple xs)), some (.dat (.int k)), some (.dat (.int deep)), none, none] = _
            unfold Dg.b_L_spoilt
            rw [seq_nx ((hn1 _ _).trans rfl)]
            rw [seq_nx (ρ' := [some (.dat (.tuple xs)), some (.dat (.int k)), some (.dat (.int deep)), none, none]) (by
              simp [tAndF, isiD, hlen, hpos, d6, modI (show (0 : Int) < 2 by decide), hp])]
            rw [seq_nx (ρ' := [some (.dat (.tuple xs)), some (.dat (.int k)), some (.dat (.int deep)), none, none]) (by simp [tAndF, isiD])]
            simp [d6, hr]
end Pe

set_option maxHeartbeats 4400000
namespace Pe
open Dn
open PySem (PyData Str)
/-! ### texts of yards -/
def sI (i : Int) : Str := Str.ofString (toString i)
def sp : Str := Str.ofString " "
def gl (a p : Str) : Str := a ++ sp ++ p
def Dig (i : Int) : Prop := 0 ≤ i ∧ i ≤ 9
def lw (l : Lk) : List Str := [Str.ofString "link", sI l.1, sI l.2.1, sI l.2.2]
def wds (c : Int) (ls : List Lk) : List Str := Str.ofString "yard" :: sI c :: ls.flatMap lw
def tl1 (t : Str) (l : Lk) : Str := gl (gl (gl (gl t (Str.ofString "link")) (sI l.1)) (sI l.2.1)) (sI l.2.2)
def txt (c : Int) (ls : List Lk) : Str := ls.foldl tl1 (gl (Str.ofString "yard") (sI c))
theorem app_assoc (a b c : Str) : a ++ b ++ c = a ++ (b ++ c) := TL.ext_tl (by simp only [TL.tl_append, List.append_assoc])
theorem join_app (a b : Str) : ∀ r : List Str, Str.join sp ((a ++ b) :: r) = a ++ Str.join sp (b :: r)
  | [] => rfl
  | x :: r => by
    show a ++ b ++ sp ++ Str.join sp (x :: r) = a ++ (b ++ sp ++ Str.join sp (x :: r))
    rw [app_assoc, app_assoc, app_assoc]
theorem join_gl : ∀ (ws : List Str) (w : Str), Str.join sp (w :: ws) = ws.foldl gl w
  | [], _ => rfl
  | p :: r, w => by
    have ih := join_gl r (gl w p)
    rw [List.foldl_cons, ← ih]
    unfold gl
    rw [join_app]
    rfl
theorem flat_gl : ∀ (ls : List Lk) (t : Str), (ls.flatMap lw).foldl gl t = ls.foldl tl1 t
  | [], _ => rfl
  | l :: ls, t => by
    rw [List.flatMap_cons, List.foldl_append, List.foldl_cons, ← flat_gl ls]
    rfl
theorem join_wds (c : Int) (ls : List Lk) : PySem.Txt.join sp (wds c ls) = txt c ls := by
  rw [TL.join_eq]
  unfold wds
  rw [join_gl, List.foldl_cons, flat_gl]
  rfl
theorem sI_tl {i : Int} (h : Dig i) : TL.tl (sI i) = [48 + i.toNat] := by
  obtain ⟨h1, h2⟩ := h
  have e : i = ((i.toNat : Nat) : Int) := by omega
  unfold sI
  rw [e, TL.tl_num, TL.numL_lt (by omega)]
  rw [← e]
theorem sI_len {i : Int} (h : Dig i) : (sI i).length = 1 := by
  rw [TL.len_tl, sI_tl h]
  rfl
theorem gl_len (a p : Str) : (gl a p).length = a.length + 1 + p.length := by
  have e : sp.length = 1 := by decide +kernel
  unfold gl
  rw [TL.len_tl, TL.tl_append, TL.tl_append, List.length_append, List.length_append, ← TL.len_tl, ← TL.len_tl, ← TL.len_tl, e]
structure DL (l : Lk) : Prop where
  a : Dig l.1
  b : Dig l.2.1
  c : Dig l.2.2
theorem lnk_len : (Str.ofString "link").length = 4 := by decide +kernel
theorem yrd_len : (Str.ofString "yard").length = 4 := by decide +kernel
theorem tl1_len {l : Lk} (h : DL l) (t : Str) : (tl1 t l).length = t.length + 11 := by
  unfold tl1
  rw [gl_len, gl_len, gl_len, gl_len, sI_len h.a, sI_len h.b, sI_len h.c, lnk_len]
theorem txt_len {c : Int} (hc : Dig c) : ∀ {ls : List Lk}, (∀ l ∈ ls, DL l) → (txt c ls).length = 6 + 11 * ls.length := by
  have key : ∀ (ls : List Lk) (t : Str), (∀ l ∈ ls, DL l) → (ls.foldl tl1 t).length = t.length + 11 * ls.length := by
    intro ls
    induction ls with
    | nil => intro t _; rfl
    | cons l ls ih =>
      intro t h
      rw [List.foldl_cons, ih _ fun x hx => h x (List.mem_cons_of_mem _ hx), tl1_len (h l List.mem_cons_self), List.length_cons]
      omega
  intro ls h
  unfold txt
  rw [key ls _ h, gl_len, sI_len hc, yrd_len]
theorem log_dig : ∀ n : Nat, n < 10 → n.log2 < 1920 := fun n h => by
  have : ∀ n, n < 10 → n.log2 < 1920 := by decide +kernel
  exact this n h
theorem strDig {i : Int} (h : Dig i) : strD (.int i) = some (.str (sI i)) := by
  obtain ⟨h1, h2⟩ := h
  show (if i.natAbs.log2 < 1920 then some (PyData.str (Str.ofString (toString i))) else none) = _
  rw [if_pos (log_dig _ (by omega))]
  rfl
theorem addS {a b : Str} (h : a.length + b.length ≤ 1000000) : addD (.str a) (.str b) = some (.str (a ++ b)) := by
  show (if a.length + b.length ≤ PySem.sizeLine then some (PyData.str (a ++ b)) else none) = _
  rw [if_pos (Nat.le_trans h (by decide))]
theorem ev_sExt {i : Nat} {f : EF} {ρ : Dn.Env} {ds es : List D} (h1 : ρ[i]? = some (some (.own ds))) (h2 : f ρ = some (.ok (.list es))) (h3 : ds.length + es.length ≤ 1000000) : sExt i f ρ = some (.nx (ρ.set i (some (.own (ds ++ es))))) := by
  unfold sExt
  rw [h1]
  simp only
  rw [h2, bS_ok]
  simp only
  rw [if_pos h3]
def sL (ws : List Str) : List D := ws.map .str
theorem strs_map : ∀ ws : List Str, strsOf (sL ws) = some ws
  | [] => rfl
  | w :: ws => by
    show (strsOf (sL ws)).map (w :: ·) = _
    rw [strs_map ws]
    rfl
theorem flat_len (ls : List Lk) : (ls.flatMap lw).length = 4 * ls.length := by
  induction ls with
  | nil => rfl
  | cons l ls ih =>
    rw [List.flatMap_cons, List.length_append, ih, List.length_cons]
    show 4 + _ = _
    omega
theorem ev_words {c : Int} {ls : List Lk} (hc : Dig c) (hd : ∀ l ∈ ls, DL l) (hl : ls.length ≤ 1000) : Dg.P_yard_words [encY c ls] = some (.ok (.list (sL (wds c ls)))) := by
  refine runF_ok rfl ?_
  show Dg.b_P_yard_words [some (.dat (encY c ls)), none, none, none] = _
  have y0 : ixD (encY c ls) (.int 0) = some (.int c) := rfl
  have y1 : ixD (encY c ls) (.int 1) = some (encLs ls) := rfl
  unfold Dg.b_P_yard_words
  rw [seq_nx (ρ' := [some (.dat (encY c ls)), some (.own (sL [Str.ofString "yard", sI c])), none, none]) (by simp [y0, strDig hc, sL])]
  obtain ⟨ρ', hf, s2, rfl⟩ := forL_I (g := gName 2) (b := Dn.sExt 1 (Dn.e2 Dn.catD (Dn.eLst (Dn.aCons (Dn.eC (.str "link")) Dn.aNil)) (Dn.eComp (Dn.iSeq (Dn.eVar 2)) (Dn.gName 3) Dn.tYesF (Dn.e1 Dn.strD (Dn.eVarW 3)) [3]))) encL
    (fun pre ρ => ∃ s2, ρ = [some (.dat (encY c ls)), some (.own (sL (wds c pre))), s2, none]) ls [] _ ⟨none, rfl⟩ (by
    rintro pr x po ρ hp ⟨s2, rfl⟩
    have hx : x ∈ ls := by
      rw [List.nil_append] at hp
      rw [hp]
      simp
    have hd' := hd x hx
    have hln : pr.length ≤ ls.length := by
      rw [List.nil_append] at hp
      rw [hp, List.length_append]
      omega
    have hsq : wds c (pr ++ [x]) = wds c pr ++ lw x := by
      unfold wds
      rw [List.flatMap_append]
      show _ = Str.ofString "yard" :: sI c :: (pr.flatMap lw ++ lw x)
      rw [List.flatMap_cons, List.flatMap_nil, List.append_nil]
    have hl4 : (sL (wds c pr)).length = 4 * pr.length + 2 := by
      unfold sL wds
      rw [List.length_map, List.length_cons, List.length_cons, flat_len]
    refine ⟨[some (.dat (encY c ls)), some (.own (sL (wds c pr))), some (.dat (encL x)), none], _, rfl, ev_sExt (es := sL (lw x)) rfl (e2_of (a := .list [.str (Str.ofString "link")]) (b := .list [.str (sI x.1), .str (sI x.2.1), .str (sI x.2.2)]) (by simp) ?_ rfl) ?_, some (.dat (encL x)), ?_⟩
    · have e : [PyData.str (sI x.1), .str (sI x.2.1), .str (sI x.2.2)] = [x.1, x.2.1, x.2.2].map fun i => PyData.str (sI i) := rfl
      rw [e]
      refine comp_of PyData.int [x.1, x.2.1, x.2.2] (fun i => .str (sI i)) rfl (show 3 ≤ 1000000 by decide) fun i hi => ⟨_, rfl, ?_⟩
      have hdi : Dig i := by
        simp only [List.mem_cons, List.not_mem_nil, or_false] at hi
        rcases hi with rfl | rfl | rfl
        · exact hd'.a
        · exact hd'.b
        · exact hd'.c
      simp [strDig hdi]
    · rw [hl4]
      show _ + 4 ≤ 1000000
      omega
    · rw [hsq]
      unfold sL
      rw [List.map_append]
      rfl)
  rw [List.nil_append] at *
  rw [seq_nx (ρ' := [some (.dat (encY c ls)), some (.own (sL (wds c ls))), s2, none]) (by
    rw [ev_sFor]
    simp only [ev_iSeq, ev_e2, ev_varW, ev_c, List.getElem?_cons_zero, ev_ret, bnd_ok, y1, lft_some]
    exact hf)]
  rfl
/-- sep.join -/
theorem strs_len : ∀ {ws : List Str}, (∀ w ∈ ws, w.length ≤ 4) → (ws.map fun y => y.length).sum ≤ 4 * ws.length
  | [], _ => by simp
  | w :: ws, h => by
    have ih := strs_len fun x hx => h x (List.mem_cons_of_mem _ hx)
    have := h w List.mem_cons_self
    rw [List.map_cons, List.sum_cons, List.length_cons]
    omega
theorem wds_len {c : Int} {ls : List Lk} : (wds c ls).length = 2 + 4 * ls.length := by
  unfold wds
  rw [List.length_cons, List.length_cons, flat_len]
  omega
theorem lw_le {l : Lk} (h : DL l) : ∀ w ∈ lw l, w.length ≤ 4 := fun w hw => by
  have h1 := sI_len h.a
  have h2 := sI_len h.b
  have h3 := sI_len h.c
  have h4 := lnk_len
  unfold lw at hw
  simp only [List.mem_cons, List.not_mem_nil, or_false] at hw
  rcases hw with rfl | rfl | rfl | rfl <;> omega
theorem wds_le {c : Int} {ls : List Lk} (hc : Dig c) (hd : ∀ l ∈ ls, DL l) : ∀ w ∈ wds c ls, w.length ≤ 4 := fun w hw => by
  unfold wds at hw
  rcases List.mem_cons.mp hw with rfl | hw
  · exact Nat.le_of_eq yrd_len
  · rcases List.mem_cons.mp hw with rfl | hw
    · rw [sI_len hc]
      decide
    · obtain ⟨l, hl, hw⟩ := List.mem_flatMap.mp hw
      exact lw_le (hd l hl) w hw
theorem ev_join2 {ρ : Dn.Env} {fb : EF} {ws : List Str} (h : fb ρ = some (.ok (.list (sL ws)))) (h1 : (ws.map fun y => y.length).sum + ws.length ≤ 1000000) : eJoin2 (eC (.str " ")) fb ρ = some (.ok (.str (PySem.Txt.join sp ws))) := by
  unfold eJoin2
  rw [ev_c, bnd_ok]
  simp only
  rw [h, bnd_ok]
  show lft ((strsOf (sL ws)).bind _) = _
  rw [strs_map]
  show lft (if _ then _ else _) = _
  rw [if_pos]
  · rfl
  · have e : (Str.ofString " ").length = 1 := by decide +kernel
    show _ + ws.length * (Str.ofString " ").length ≤ 1000000
    rw [e]
    omega
theorem ev_joinW {c : Int} {ls : List Lk} (hc : Dig c) (hd : ∀ l ∈ ls, DL l) (hl : ls.length ≤ 1000) {ρ : Dn.Env} {fb : EF} (h : fb ρ = some (.ok (.list (sL (wds c ls))))) : eJoin2 (eC (.str " ")) fb ρ = some (.ok (.str (txt c ls))) := by
  rw [ev_join2 h, join_wds]
  have h1 := strs_len (wds_le hc hd)
  rw [wds_len] at h1 ⊢
  omega
/-- the law's own writing -/
theorem gl_eq (a p : Str) : gl a p = a ++ sp ++ p := rfl
theorem lnk_sp (t : Str) : t ++ Str.ofString " link" = gl t (Str.ofString "link") := by
  unfold gl
  rw [app_assoc]
  congr 1
theorem yrd_sp (t : Str) : Str.ofString "yard " ++ t = gl (Str.ofString "yard") t := by
  unfold gl
  congr 1
theorem txt_snoc (c : Int) (ls : List Lk) (l : Lk) : txt c (ls ++ [l]) = tl1 (txt c ls) l := by
  unfold txt
  rw [List.foldl_append]
  rfl
theorem ev_Lwritten {c : Int} {ls : List Lk} (hc : Dig c) (hd : ∀ l ∈ ls, DL l) (hl : ls.length ≤ 1000) : Dg.L_written [encY c ls] = some (.ok (.str (txt c ls))) := by
  refine runF_ok rfl ?_
  show Dg.b_L_written [some (.dat (encY c ls)), none, none, none] = _
  have y0 : ixD (encY c ls) (.int 0) = some (.int c) := rfl
  have y1 : ixD (encY c ls) (.int 1) = some (encLs ls) := rfl
  have l5 : (Str.ofString "yard ").length = 5 := by decide +kernel
  have l5' : (Str.ofString " link").length = 5 := by decide +kernel
  have l1 : (Str.ofString " ").length = 1 := by decide +kernel
  unfold Dg.b_L_written
  rw [seq_nx (ρ' := [some (.dat (encY c ls)), some (.dat (.str (txt c []))), none, none]) (by
    have e := addS (a := Str.ofString "yard ") (b := sI c) (by rw [l5, sI_len hc]; decide)
    rw [yrd_sp] at e
    simp only [ev_sAsg, ev_e2, ev_e1, ev_c, ev_varW, List.getElem?_cons_zero, ev_ret, bnd_ok, y0, lft_some, strDig hc]
    rw [e]
    rfl)]
  obtain ⟨ρ', hf, s2, s3, rfl⟩ := forL_I (g := gName 2) (b := (Dn.sSeq (Dn.sAsg (Dn.gName 1) (Dn.e2 Dn.addD (Dn.eVarW 1) (Dn.eC (.str " link"))))
    (Dn.sFor (Dn.iSeq (Dn.eVar 2)) (Dn.gName 3) (Dn.sAsg (Dn.gName 1) (Dn.e2 Dn.addD (Dn.e2 Dn.addD (Dn.eVarW 1) (Dn.eC (.str " "))) (Dn.e1 Dn.strD (Dn.eVarW 3))))))) encL
    (fun pre ρ => ∃ s2 s3, ρ = [some (.dat (encY c ls)), some (.dat (.str (txt c pre))), s2, s3]) ls [] _ ⟨none, none, rfl⟩ (by
    rintro pr x po ρ hp ⟨s2, s3, rfl⟩
    rw [List.nil_append] at hp
    have hx : x ∈ ls := by
      rw [hp]
      simp
    have hd' := hd x hx
    have hln : pr.length ≤ ls.length := by
      rw [hp, List.length_append]
      omega
    have htl := txt_len hc (ls := pr) fun l hl => hd l (by rw [hp]; exact List.mem_append_left _ hl)
    refine ⟨[some (.dat (encY c ls)), some (.dat (.str (txt c pr))), some (.dat (encL x)), s3], [some (.dat (encY c ls)), some (.dat (.str (txt c (pr ++ [x])))), some (.dat (encL x)), some (.dat (.int x.2.2))], rfl, ?_, _, _, rfl⟩
    have e1 := addS (a := txt c pr) (b := Str.ofString " link") (by rw [htl, l5']; omega)
    rw [lnk_sp] at e1
    rw [seq_nx (ρ' := [some (.dat (encY c ls)), some (.dat (.str (gl (txt c pr) (Str.ofString "link")))), some (.dat (encL x)), s3]) (by
      simp only [ev_sAsg, ev_e2, ev_c, ev_varW, List.getElem?_cons_zero, List.getElem?_cons_succ, ev_ret, bnd_ok, lft_some]
      rw [e1]
      rfl)]
    have step : ∀ (t : Str) (i : Int) (s : Option Sl), Dig i → t.length ≤ 100000 → (Dn.sAsg (Dn.gName 1) (Dn.e2 Dn.addD (Dn.e2 Dn.addD (Dn.eVarW 1) (Dn.eC (.str " "))) (Dn.e1 Dn.strD (Dn.eVarW 3)))) [some (.dat (encY c ls)), some (.dat (.str t)), s, some (.dat (.int i))] = some (.nx [some (.dat (encY c ls)), some (.dat (.str (gl t (sI i)))), s, some (.dat (.int i))]) := fun t i s hi ht => by
      have a1 := addS (a := t) (b := Str.ofString " ") (by rw [l1]; omega)
      have a2 := addS (a := t ++ Str.ofString " ") (b := sI i) (by
        rw [TL.len_tl (t ++ Str.ofString " "), TL.tl_append, List.length_append, ← TL.len_tl, ← TL.len_tl, l1, sI_len hi]
        omega)
      simp only [ev_sAsg, ev_e2, ev_e1, ev_c, ev_varW, List.getElem?_cons_zero, List.getElem?_cons_succ, ev_ret, bnd_ok, lft_some, strDig hi]
      rw [a1]
      simp only [lft_some, bnd_ok]
      rw [a2]
      rfl
    have g1 : (gl (txt c pr) (Str.ofString "link")).length ≤ 50000 := by
      rw [gl_len, lnk_len, htl]
      omega
    have g2 : (gl (gl (txt c pr) (Str.ofString "link")) (sI x.1)).length ≤ 60000 := by
      rw [gl_len, sI_len hd'.a]
      omega
    have g3 : (gl (gl (gl (txt c pr) (Str.ofString "link")) (sI x.1)) (sI x.2.1)).length ≤ 70000 := by
      rw [gl_len, sI_len hd'.b]
      omega
    have q1 := step _ x.1 (some (.dat (encL x))) hd'.a (Nat.le_trans g1 (by decide))
    have q2 := step _ x.2.1 (some (.dat (encL x))) hd'.b (Nat.le_trans g2 (by decide))
    have q3 := step _ x.2.2 (some (.dat (encL x))) hd'.c (Nat.le_trans g3 (by decide))
    have hi : iSeq (eVar 2) [some (.dat (encY c ls)), some (.dat (.str (gl (txt c pr) (Str.ofString "link")))), some (.dat (encL x)), s3] = some (.ok [.int x.1, .int x.2.1, .int x.2.2]) := rfl
    rw [ev_sFor, hi, bS_ok]
    rw [txt_snoc]
    simp only [forL, ev_gName, List.set_cons_succ, List.set_cons_zero]
    rw [q1]
    simp only [forL, ev_gName, List.set_cons_succ, List.set_cons_zero]
    rw [q2]
    simp only [forL, ev_gName, List.set_cons_succ, List.set_cons_zero]
    rw [q3]
    rfl)
  rw [seq_nx (ρ' := [some (.dat (encY c ls)), some (.dat (.str (txt c ls))), s2, s3]) (by
    rw [ev_sFor]
    simp only [ev_iSeq, ev_e2, ev_varW, ev_c, List.getElem?_cons_zero, ev_ret, bnd_ok, y1, lft_some]
    exact hf)]
  rfl
theorem strEq (a b : Str) : eqD (.str a) (.str b) = some (.bool (a == b)) := by
  simp [eqD, okD, PyData.plain, PyData.depth, PyData.eqv]
theorem YP.dig {c : Int} {ls : List Lk} (y : YP c ls) : Dig c ∧ ∀ l ∈ ls, DL l := by
  have h1 := y.c1
  have h5 := y.c5
  refine ⟨⟨by omega, by omega⟩, fun l hl => ?_⟩
  obtain ⟨a1, a2, a3, a4, a5⟩ := y.lk l hl
  exact ⟨⟨by omega, by omega⟩, ⟨by omega, by omega⟩, ⟨by omega, by omega⟩⟩
end Pe

set_option maxHeartbeats 4400000
namespace Pe
open Dn
open PySem (PyData Str)
/-! ### words -/
def wlen (ws : List Str) : Nat := (ws.map fun y => y.length).sum
theorem wlen_app (a b : List Str) : wlen (a ++ b) = wlen a + wlen b := by
  unfold wlen
  rw [List.map_append, List.sum_append]
theorem wlen_cut (ws : List Str) (n : Nat) : wlen (ws.take n) + wlen (ws.drop n) = wlen ws := by
  rw [← wlen_app, List.take_append_drop]
theorem join_len : ∀ ws : List Str, ws ≠ [] → (PySem.Txt.join sp ws).length + 1 = wlen ws + ws.length
  | [], h => absurd rfl h
  | [w], _ => by
    rw [TL.join_eq]
    show w.length + 1 = w.length + 0 + 1
    rfl
  | w :: x :: r, _ => by
    have ih := join_len (x :: r) (by simp)
    rw [TL.join_eq] at ih ⊢
    have e : sp.length = 1 := by decide +kernel
    show (w ++ sp ++ Str.join sp (x :: r)).length + 1 = _
    rw [TL.len_tl, TL.tl_append, TL.tl_append, List.length_append, List.length_append, ← TL.len_tl, ← TL.len_tl, ← TL.len_tl, e]
    have : wlen (w :: x :: r) = w.length + wlen (x :: r) := by
      unfold wlen
      rw [List.map_cons, List.sum_cons]
    rw [this, List.length_cons]
    omega
theorem join_le (ws : List Str) : (PySem.Txt.join sp ws).length ≤ wlen ws + ws.length := by
  by_cases h : ws = []
  · subst h
    exact Nat.zero_le _
  · have := join_len ws h
    omega
theorem sp_len : sp.length = 1 := by decide +kernel
/-- the words of a text -/
def wsOf (t : Str) : List Str := PySem.Txt.split t sp
theorem wsOf_join (t : Str) : PySem.Txt.join sp (wsOf t) = t := by
  rw [TL.join_eq]
  exact PySem.StrLaws.join_split t sp
theorem wsOf_ne (t : Str) : wsOf t ≠ [] := fun h => by
  have := PyProof.Rows.split_pos t sp
  unfold wsOf at h
  rw [h] at this
  cases this
theorem wsOf_len (t : Str) : wlen (wsOf t) + (wsOf t).length = t.length + 1 := by
  have := join_len _ (wsOf_ne t)
  rw [wsOf_join] at this
  exact this.symm
theorem ev_split {fa : EF} {ρ : Dn.Env} {t : Str} (h : fa ρ = some (.ok (.str t))) (hl : t.length ≤ 1000000) : eSplit fa (eC (.str " ")) ρ = some (.ok (.list (sL (wsOf t)))) := by
  unfold eSplit
  rw [h, bnd_ok]
  simp only
  rw [ev_c, bnd_ok]
  show lft (if _ then _ else _) = _
  rw [if_pos ⟨by decide +kernel, hl⟩]
  rfl
/-! cuts at natural places -/
theorem sIx_nat (n d a : Nat) : HT.sIx n d (some (a : Int)) = min a n := by
  unfold HT.sIx
  first
  | (simp; done)
  | (simp; omega)
  | (split <;> omega)
theorem cutL_lo {α : Type} (xs : List α) (a : Nat) : cutL xs none (some (a : Int)) = xs.take a := by
  unfold cutL sIx
  rw [sIx_nat, HT.sIx_none, List.drop_zero, Nat.sub_zero]
  exact (List.take_eq_take_min ..).symm
theorem drop_min {α : Type} (xs : List α) (a : Nat) : xs.drop (min a xs.length) = xs.drop a := by
  by_cases h : a ≤ xs.length
  · rw [Nat.min_eq_left h]
  · rw [Nat.min_eq_right (by omega), List.drop_length, List.drop_eq_nil_of_le (by omega)]
theorem cutL_hi {α : Type} (xs : List α) (a : Nat) : cutL xs (some (a : Int)) none = xs.drop a := by
  unfold cutL sIx
  rw [sIx_nat, HT.sIx_none, drop_min, List.take_of_length_le]
  rw [List.length_drop]
  omega
theorem cutL_ab {α : Type} (xs : List α) (a b : Nat) : cutL xs (some (a : Int)) (some (b : Int)) = (xs.drop a).take (b - a) := by
  unfold cutL sIx
  rw [sIx_nat, sIx_nat, drop_min]
  rw [List.take_eq_take_iff, List.length_drop]
  omega
theorem cut_sL (ws : List Str) (lo hi : Option Int) : cutD lo hi (.list (sL ws)) = some (.list (sL (cutL ws lo hi))) := by
  show some (PyData.list (cutL (sL ws) lo hi)) = _
  unfold cutL sL
  rw [List.map_take, List.map_drop, List.length_map]
theorem addL {a b : List Str} (h : a.length + b.length ≤ 1000000) : addD (.list (sL a)) (.list (sL b)) = some (.list (sL (a ++ b))) := by
  show (if (sL a).length + (sL b).length ≤ PySem.sizeLine then some (PyData.list (sL a ++ sL b)) else none) = _
  rw [if_pos]
  · unfold sL
    rw [List.map_append]
  · unfold sL
    rw [List.length_map, List.length_map]
    exact Nat.le_trans h (by decide)
theorem cutS_len (z : Str) (lo hi : Option Int) : (L2.cutS z lo hi).length ≤ z.length := by
  unfold L2.cutS
  rw [TL.len_tl, TL.len_tl z, TL.tl_mk, List.length_take, List.length_drop]
  have : (TL.tl z).length = z.cps.toList.length := rfl
  omega
theorem cut_str {z : Str} (lo hi : Option Int) (h : z.length ≤ 1000000) : cutD lo hi (.str z) = some (.str (L2.cutS z lo hi)) := by
  show (if z.length ≤ PySem.sizeLine then some (PyData.str (L2.cutS z lo hi)) else none) = _
  rw [if_pos (Nat.le_trans h (by decide))]
theorem len_sL (ws : List Str) : lenD (.list (sL ws)) = some (.int ws.length) := by
  show some (PyData.int ((sL ws).length : Nat)) = _
  unfold sL
  rw [List.length_map]
theorem len_str {z : Str} (h : z.length ≤ 1000000) : lenD (.str z) = some (.int z.length) := by
  show (if z.length ≤ PySem.sizeLine then some (PyData.int (z.length : Nat)) else none) = _
  rw [if_pos (Nat.le_trans h (by decide))]
theorem app_len (a b : Str) : (a ++ b).length = a.length + b.length := by
  rw [TL.len_tl, TL.tl_append, List.length_append, ← TL.len_tl, ← TL.len_tl]
theorem ix_sL {ws : List Str} {i : Int} (h0 : 0 ≤ i) (h1 : i < ws.length) : ∃ w ∈ ws, ixD (.list (sL ws)) (.int i) = some (.str w) := by
  obtain ⟨x, hx, he, _⟩ := ix_in (xs := sL ws) (i := i) h0 (by unfold sL; rw [List.length_map]; exact h1)
  obtain ⟨w, hw, rfl⟩ := List.mem_map.mp hx
  exact ⟨w, hw, he⟩
theorem ix_str {z : Str} {i : Int} (hz : z.length ≤ 1000) (h0 : 0 ≤ i) (h1 : i < z.length) : ∃ w : Str, w.length = 1 ∧ ixD (.str z) (.int i) = some (.str w) := by
  have hl : i.toNat < z.cps.toList.length := by
    have := TL.len_tl z
    unfold TL.tl at this
    omega
  have e1 : ixNat z.cps.toList.length i = some i.toNat := by
    unfold ixNat
    rw [if_pos h0, if_pos (by omega)]
  refine ⟨⟨#[z.cps.toList[i.toNat]]⟩, rfl, ?_⟩
  show (if z.length ≤ PySem.sizeLine then (ixNat z.cps.toList.length i).bind fun j => z.cps.toList[j]?.map fun c => PyData.str ⟨#[c]⟩ else none) = _
  rw [if_pos (Nat.le_trans hz (by decide)), e1]
  show (z.cps.toList[i.toNat]?).map _ = _
  rw [List.getElem?_eq_getElem hl]
  rfl
theorem wlen_sub {a b : List Str} (h : a.Sublist b) : wlen a ≤ wlen b ∧ a.length ≤ b.length := by
  refine ⟨?_, h.length_le⟩
  induction h with
  | slnil => exact Nat.le_refl _
  | cons x _ ih =>
    unfold wlen at *
    rw [List.map_cons, List.sum_cons]
    omega
  | cons_cons x _ ih =>
    unfold wlen at *
    rw [List.map_cons, List.sum_cons, List.map_cons, List.sum_cons]
    omega
/-! ### the law's changes: a text comes of it, not much longer -/
theorem ev_cutL {fa : EF} {fl fh : Dn.Env → M (Option Int)} {ρ : Dn.Env} {ws : List Str} {lo hi : Option Int} (h : fa ρ = some (.ok (.list (sL ws)))) (h1 : fl ρ = some (.ok lo)) (h2 : fh ρ = some (.ok hi)) : eCut fa fl fh ρ = some (.ok (.list (sL (cutL ws lo hi)))) := by
  unfold eCut
  rw [h, bnd_ok, h1, bnd_ok, h2, bnd_ok, cut_sL]
  rfl
theorem ev_cutS {fa : EF} {fl fh : Dn.Env → M (Option Int)} {ρ : Dn.Env} {z : Str} {lo hi : Option Int} (h : fa ρ = some (.ok (.str z))) (h1 : fl ρ = some (.ok lo)) (h2 : fh ρ = some (.ok hi)) (hl : z.length ≤ 1000000) : eCut fa fl fh ρ = some (.ok (.str (L2.cutS z lo hi))) := by
  unfold eCut
  rw [h, bnd_ok, h1, bnd_ok, h2, bnd_ok, cut_str _ _ hl]
  rfl
theorem oI {fa : EF} {ρ : Dn.Env} {i : Int} (h : fa ρ = some (.ok (.int i))) : oInt fa ρ = some (.ok (some i)) := by
  unfold oInt
  rw [h]
  rfl
theorem oN {ρ : Dn.Env} : oNo ρ = some (.ok none) := rfl
def litW : Str := Str.ofString "yard link 0 1 2 3 4 5 6 00 01 -1 a"
theorem litW_len : (wsOf litW).length = 13 ∧ wlen (wsOf litW) ≤ 22 := by
  have h : (wsOf litW).length = 13 := by decide +kernel
  have h2 := wsOf_len litW
  have h3 : litW.length = 34 := by decide +kernel
  omega
theorem wlen_mem {ws : List Str} {w : Str} (h : w ∈ ws) : w.length ≤ wlen ws := by
  have := (wlen_sub (List.singleton_sublist.mpr h)).1
  unfold wlen at this ⊢
  simpa using this
theorem ev_joinL {ρ : Dn.Env} {fb : EF} {ws : List Str} (h : fb ρ = some (.ok (.list (sL ws)))) (h1 : wlen ws + ws.length ≤ 1000000) : eJoin2 (eC (.str " ")) fb ρ = some (.ok (.str (PySem.Txt.join sp ws))) := ev_join2 h h1
theorem if_t {t : TF} {a b : SF} {ρ : Dn.Env} (h : t ρ = some (.ok true)) : sIf t a b ρ = a ρ := by
  rw [ev_sIf, h]
  rfl
theorem if_f {t : TF} {a b : SF} {ρ : Dn.Env} (h : t ρ = some (.ok false)) : sIf t a b ρ = b ρ := by
  rw [ev_sIf, h]
  rfl
theorem ret_of {fa : EF} {ρ : Dn.Env} {d : D} (h : fa ρ = some (.ok d)) : sRet fa ρ = some (.rt d) := by
  rw [ev_sRet, h]
  rfl
theorem ev_changed {t : Str} {n : Int} (ht : t.length ≤ 10000) (hn : 0 ≤ n) : ∃ t', Dg.L_changed [.str t, .int n] = some (.ok (.str t')) ∧ t'.length ≤ 2 * t.length + 30 := by
  let ws := wsOf t
  have hws : wlen ws + ws.length = t.length + 1 := wsOf_len t
  have hne : 1 ≤ ws.length := List.length_pos_iff.mpr (wsOf_ne t)
  obtain ⟨a, ha, hal⟩ : ∃ a : Nat, n / 8 % (ws.length : Int) = (a : Int) ∧ a < ws.length := by
    have hb := emod_in (a := n / 8) (b := (ws.length : Int)) (by omega)
    exact ⟨(n / 8 % (ws.length : Int)).toNat, by omega, by omega⟩
  obtain ⟨p, hp, hpl⟩ : ∃ p : Nat, n / 8 % ((t.length : Int) + 1) = (p : Int) ∧ p ≤ t.length := by
    have hb := emod_in (a := n / 8) (b := (t.length : Int) + 1) (by omega)
    exact ⟨(n / 8 % ((t.length : Int) + 1)).toNat, by omega, by omega⟩
  have hk := emod_in (a := n) (b := 8) (by decide)
  have hm8 : modD (.int n) (.int 8) = some (.int (n % 8)) := modI (by decide)
  have hd8 : fdivD (.int n) (.int 8) = some (.int (n / 8)) := fdivI (by decide)
  have hd7 : fdivD (.int n) (.int 7) = some (.int (n / 7)) := fdivI (by decide)
  have hml : modD (.int (n / 8)) (.int (ws.length : Nat)) = some (.int a) := by rw [modI (by omega), ha]
  have hmt : modD (.int (n / 8)) (.int ((t.length : Nat) + 1)) = some (.int p) := by rw [modI (by omega), hp]
  have hm13 : ∀ x : Int, modD (.int x) (.int 13) = some (.int (x % 13)) := fun x => modI (by decide)
  -- the pieces
  have hcut := wlen_cut ws a
  have hcl : (ws.take a).length + (ws.drop a).length = ws.length := by rw [List.length_take, List.length_drop]; omega
  have s1 : wlen (ws.drop (a + 1)) ≤ wlen (ws.drop a) ∧ (ws.drop (a + 1)).length ≤ (ws.drop a).length := wlen_sub (by
    rw [← List.drop_drop]
    exact List.drop_sublist _ _)
  have s2 : wlen (ws.drop (a + 2)) ≤ wlen (ws.drop (a + 1)) ∧ (ws.drop (a + 2)).length ≤ (ws.drop (a + 1)).length := wlen_sub (by
    rw [show a + 2 = a + 1 + 1 from rfl, ← List.drop_drop]
    exact List.drop_sublist _ _)
  have c1 := wlen_cut (ws.drop a) 1
  have c2 := wlen_cut (ws.drop (a + 1)) 1
  rw [List.drop_drop] at c1 c2
  have k1 : ((ws.drop a).take 1).length + (ws.drop (a + 1)).length = (ws.drop a).length := by rw [List.length_take, List.length_drop, List.length_drop]; omega
  have k2 : ((ws.drop (a + 1)).take 1).length + (ws.drop (a + 2)).length = (ws.drop (a + 1)).length := by rw [List.length_take, List.length_drop, List.length_drop]; omega
  -- the walk
  suffices h : ∃ t', Dg.b_L_changed [some (.dat (.str t)), some (.dat (.int n)), none, none, none, none, none, none, none] = some (.rt (.str t')) ∧ t'.length ≤ 2 * t.length + 30 by
    obtain ⟨t', h1, h2⟩ := h
    exact ⟨t', runF_ok rfl h1, h2⟩
  have hlt := len_str (z := t) (by omega)
  have hlw := len_sL ws
  unfold Dg.b_L_changed
  rw [seq_nx (ρ' := [some (.dat (.str t)), some (.dat (.int n)), some (.dat (.list (sL ws))), none, none, none, none, none, none]) (by
    rw [ev_sAsg, ev_split rfl (by omega)]
    rfl)]
  rw [seq_nx (ρ' := [some (.dat (.str t)), some (.dat (.int n)), some (.dat (.list (sL ws))), some (.dat (.int a)), none, none, none, none, none]) (by simp [hd8, hlw, hml])]
  rw [seq_nx (ρ' := [some (.dat (.str t)), some (.dat (.int n)), some (.dat (.list (sL ws))), some (.dat (.int a)), some (.dat (.int p)), none, none, none, none]) (by simp [hd8, hlt, hmt])]
  rw [seq_nx (ρ' := [some (.dat (.str t)), some (.dat (.int n)), some (.dat (.list (sL ws))), some (.dat (.int a)), some (.dat (.int p)), some (.dat (.int (n % 8))), none, none, none]) (by simp [hm8])]
  by_cases q0 : n % 8 = 0
  · rw [seq_rt (d := .str (L2.cutS t none (some (p : Int)) ++ L2.cutS t (some ((p : Int) + 1)) none)) (by
      rw [if_t (by simp [q0])]
      exact ret_of (e2_of (ev_cutS rfl oN (oI rfl) (by omega)) (ev_cutS rfl (oI rfl) oN (by omega)) (addS (by
        have := cutS_len t none (some (p : Int))
        have := cutS_len t (some ((p : Int) + 1)) none
        omega))))]
    refine ⟨_, rfl, ?_⟩
    have := cutS_len t none (some (p : Int))
    have := cutS_len t (some ((p : Int) + 1)) none
    rw [app_len]
    omega
  rw [seq_nx (by rw [if_f (by simp [q0])]; rfl)]
  by_cases q3 : n % 8 < 3
  · obtain ⟨sg, hsg, hix⟩ := ix_str (z := Str.ofString " 0123456-_y\n\t") (i := n / 7 % 13) (by decide +kernel) (emod_in (by decide)).1 (by
      have : (Str.ofString " 0123456-_y\n\t").length = 13 := by decide +kernel
      rw [this]
      exact (emod_in (by decide)).2)
    have l1 := cutS_len t none (some (p : Int))
    have l2 := cutS_len t (some ((p : Int) + n % 8 - 1)) none
    have l3 := app_len (L2.cutS t none (some (p : Int))) sg
    rw [seq_rt (d := .str (L2.cutS t none (some (p : Int)) ++ sg ++ L2.cutS t (some ((p : Int) + n % 8 - 1)) none)) (by
      rw [if_t (by simp [q3])]
      rw [seq_nx (ρ' := [some (.dat (.str t)), some (.dat (.int n)), some (.dat (.list (sL ws))), some (.dat (.int a)), some (.dat (.int p)), some (.dat (.int (n % 8))), some (.dat (.str sg)), none, none]) (by simp [hd7, hm13, hix])]
      exact ret_of (e2_of (e2_of (ev_cutS rfl oN (oI rfl) (by omega)) rfl (addS (by omega))) (ev_cutS rfl (oI rfl) oN (by omega)) (addS (by omega))))]
    refine ⟨_, rfl, ?_⟩
    rw [app_len]
    omega
  rw [seq_nx (by rw [if_f (by simp [q3])]; rfl)]
  by_cases q4 : n % 8 = 3
  · have hb : wlen (ws.take a ++ ws.drop (a + 1)) + (ws.take a ++ ws.drop (a + 1)).length ≤ 2 * t.length + 30 := by
      rw [wlen_app, List.length_append]
      omega
    rw [seq_rt (d := .str (PySem.Txt.join sp (ws.take a ++ ws.drop (a + 1)))) (by
      rw [if_t (by simp [q4])]
      refine ret_of (ev_joinL ?_ (by omega))
      have e := addL (a := ws.take a) (b := ws.drop (a + 1)) (by omega)
      rw [← cutL_lo ws a, ← cutL_hi ws (a + 1)] at e ⊢
      exact e2_of (ev_cutL rfl oN (oI rfl)) (ev_cutL rfl (oI rfl) oN) e)]
    exact ⟨_, rfl, Nat.le_trans (join_le _) hb⟩
  rw [seq_nx (by rw [if_f (by simp [q4])]; rfl)]
  by_cases q5 : n % 8 = 4
  · have hb : wlen (ws.take a ++ (ws.drop a).take (a + 1 - a) ++ ws.drop a) + (ws.take a ++ (ws.drop a).take (a + 1 - a) ++ ws.drop a).length ≤ 2 * t.length + 30 := by
      rw [wlen_app, List.length_append, wlen_app, List.length_append, Nat.add_sub_cancel_left]
      omega
    rw [seq_rt (d := .str (PySem.Txt.join sp (ws.take a ++ (ws.drop a).take (a + 1 - a) ++ ws.drop a))) (by
      rw [if_t (by simp [q5])]
      refine ret_of (ev_joinL ?_ (by omega))
      have e := addL (a := ws.take a) (b := (ws.drop a).take (a + 1 - a)) (by rw [Nat.add_sub_cancel_left]; omega)
      have e' := addL (a := ws.take a ++ (ws.drop a).take (a + 1 - a)) (b := ws.drop a) (by rw [List.length_append, Nat.add_sub_cancel_left]; omega)
      rw [← cutL_lo ws a, ← cutL_ab ws a (a + 1), ← cutL_hi ws a] at *
      exact e2_of (e2_of (ev_cutL rfl oN (oI rfl)) (ev_cutL rfl (oI rfl) (oI rfl)) e) (ev_cutL rfl (oI rfl) oN) e')]
    exact ⟨_, rfl, Nat.le_trans (join_le _) hb⟩
  rw [seq_nx (by rw [if_f (by simp [q5])]; rfl)]
  by_cases q6 : n % 8 = 5
  · let sw := (ws.drop (a + 1)).take (a + 2 - (a + 1)) ++ (ws.drop a).take (a + 1 - a)
    have e1 : a + 2 - (a + 1) = 1 := by omega
    have e2 : a + 1 - a = 1 := by omega
    have hb : wlen (ws.take a ++ sw ++ ws.drop (a + 2)) + (ws.take a ++ sw ++ ws.drop (a + 2)).length ≤ 2 * t.length + 30 := by
      rw [wlen_app, List.length_append, wlen_app, List.length_append, wlen_app, List.length_append, e1, e2]
      omega
    have hbs : sw.length ≤ 2 := by
      show ((ws.drop (a + 1)).take (a + 2 - (a + 1)) ++ (ws.drop a).take (a + 1 - a)).length ≤ 2
      rw [List.length_append, List.length_take, List.length_take]
      omega
    rw [seq_rt (d := .str (PySem.Txt.join sp (ws.take a ++ sw ++ ws.drop (a + 2)))) (by
      rw [if_t (by simp [q6])]
      rw [seq_nx (ρ' := [some (.dat (.str t)), some (.dat (.int n)), some (.dat (.list (sL ws))), some (.dat (.int a)), some (.dat (.int p)), some (.dat (.int (n % 8))), none, some (.dat (.list (sL sw))), none]) (by
        have e := addL (a := (ws.drop (a + 1)).take (a + 2 - (a + 1))) (b := (ws.drop a).take (a + 1 - a)) (by rw [List.length_take, List.length_take]; omega)
        rw [ev_sAsg, e2_of (a := .list (sL (cutL ws (some ((a + 1 : Nat) : Int)) (some ((a + 2 : Nat) : Int))))) (b := .list (sL (cutL ws (some (a : Int)) (some ((a + 1 : Nat) : Int))))) (ev_cutL rfl (oI rfl) (oI rfl)) (ev_cutL rfl (oI rfl) (oI rfl)) (by rw [cutL_ab, cutL_ab]; exact e)]
        rfl)]
      refine ret_of (ev_joinL ?_ (by omega))
      have e := addL (a := ws.take a) (b := sw) (by omega)
      have e' := addL (a := ws.take a ++ sw) (b := ws.drop (a + 2)) (by rw [List.length_append]; omega)
      rw [← cutL_lo ws a] at e
      rw [← cutL_hi ws (a + 2)] at e'
      rw [← cutL_lo ws a, ← cutL_hi ws (a + 2)] at *
      exact e2_of (e2_of (ev_cutL rfl oN (oI rfl)) rfl e) (ev_cutL rfl (oI rfl) oN) e')]
    exact ⟨_, rfl, Nat.le_trans (join_le _) hb⟩
  rw [seq_nx (by rw [if_f (by simp [q6])]; rfl)]
  obtain ⟨lw1, lw2⟩ := litW_len
  obtain ⟨w, hw, hix⟩ := ix_sL (ws := wsOf litW) (i := n / 7 % 13) (emod_in (by decide)).1 (by rw [lw1]; exact (emod_in (by decide)).2)
  have hwl := wlen_mem hw
  have hb : wlen (ws.take a ++ [w] ++ ws.drop (a + 1)) + (ws.take a ++ [w] ++ ws.drop (a + 1)).length ≤ 2 * t.length + 30 := by
    rw [wlen_app, List.length_append, wlen_app, List.length_append]
    have : wlen [w] = w.length := by unfold wlen; simp
    rw [this, List.length_singleton]
    omega
  rw [seq_nx (ρ' := [some (.dat (.str t)), some (.dat (.int n)), some (.dat (.list (sL ws))), some (.dat (.int a)), some (.dat (.int p)), some (.dat (.int (n % 8))), none, none, some (.dat (.list (sL (wsOf litW))))]) (by
    rw [ev_sAsg, ev_split (t := litW) rfl (by decide +kernel)]
    rfl)]
  rw [ret_of (d := .str (PySem.Txt.join sp (ws.take a ++ [w] ++ ws.drop (a + 1)))) (by
    refine ev_joinL ?_ (by omega)
    have e := addL (a := ws.take a) (b := [w]) (by rw [List.length_singleton]; omega)
    have e' := addL (a := ws.take a ++ [w]) (b := ws.drop (a + 1)) (by rw [List.length_append, List.length_singleton]; omega)
    have hl : eLst (aCons (e2 ixD (eVarW 8) (e2 modD (e2 fdivD (eVarW 1) (eC (.int 7))) (eC (.int 13)))) aNil) [some (.dat (.str t)), some (.dat (.int n)), some (.dat (.list (sL ws))), some (.dat (.int a)), some (.dat (.int p)), some (.dat (.int (n % 8))), none, none, some (.dat (.list (sL (wsOf litW))))] = some (.ok (.list (sL [w]))) := by
      show _ = some (Dn.Rs.ok (PyData.list [PyData.str w]))
      simp [hd7, hm13, hix]
    rw [← cutL_lo ws a, ← cutL_hi ws (a + 1)] at *
    exact e2_of (e2_of (ev_cutL rfl oN (oI rfl)) hl e) (ev_cutL rfl (oI rfl) oN) e')]
  exact ⟨_, rfl, Nat.le_trans (join_le _) hb⟩
end Pe

set_option maxHeartbeats 4400000
namespace Pe
open Dn
open PySem (PyData Str)
theorem runF_exc {n N : Nat} {b : SF} {ds : List D} {c : PySem.Str} (hl : ds.length = n) (h : b (ds.map (fun d => some (.dat d)) ++ List.replicate (N - n) none) = some (.exc c)) : runF n N b ds = some (.exc c) := by
  unfold runF
  rw [if_pos hl, h]
theorem runF_rt {n N : Nat} {b : SF} {ds : List D} {d : D} (hl : ds.length = n) (h : b (ds.map (fun d => some (.dat d)) ++ List.replicate (N - n) none) = some (.rt d)) : runF n N b ds = some (.ok d) := by
  unfold runF
  rw [if_pos hl, h]
  rfl
/-! ### figures -/
open Classical in
noncomputable def fig (w : Str) : Option Int := if h : ∃ i, Dig i ∧ w = sI i then some h.choose else none
theorem sI_inj {i j : Int} (hi : Dig i) (hj : Dig j) (h : sI i = sI j) : i = j := by
  have e := congrArg TL.tl h
  rw [sI_tl hi, sI_tl hj] at e
  injection e with e
  have := hi.1
  have := hj.1
  omega
theorem fig_sI {i : Int} (h : Dig i) : fig (sI i) = some i := by
  have hx : ∃ j, Dig j ∧ sI i = sI j := ⟨i, h, rfl⟩
  unfold fig
  rw [dif_pos hx]
  exact congrArg some (sI_inj h hx.choose_spec.1 hx.choose_spec.2).symm
theorem fig_some {w : Str} {i : Int} (h : fig w = some i) : Dig i ∧ w = sI i := by
  unfold fig at h
  split at h
  · rename_i hx
    cases h
    exact hx.choose_spec
  · cases h
theorem fig_none {w : Str} (h : fig w = none) : ∀ i, Dig i → w ≠ sI i := fun i hi e => by
  rw [e, fig_sI hi] at h
  cases h
theorem figs_tl : TL.tl (Str.ofString "0123456789") = [48, 49, 50, 51, 52, 53, 54, 55, 56, 57] := by
  rw [TL.tl_ofString]
  decide +kernel
theorem one_of {w : Str} (h : w.length = 1) : ∃ c, w = ⟨#[c]⟩ := by
  have e := TL.len_tl w
  rw [h] at e
  cases hw : TL.tl w with
  | nil => rw [hw] at e; cases e
  | cons c r =>
    rw [hw] at e
    cases r with
    | nil => exact ⟨c, TL.ext_tl (by rw [hw])⟩
    | cons _ _ => cases e
theorem ev_number {w : Str} (hl : w.length ≤ 100000) : Dg.P_number_of [.str w] = match fig w with | some i => some (.ok (.int i)) | none => some (.exc "NoText") := by
  have h1 := len_str (z := w) (by omega)
  by_cases hw : w.length = 1
  · obtain ⟨c, rfl⟩ := one_of hw
    have hin : inN (.str (⟨#[c]⟩ : Str)) (.str "0123456789") = some (.bool (!decide (c ∈ [48, 49, 50, 51, 52, 53, 54, 55, 56, 57]))) := by
      show (some (PyData.bool (!(PySem.Builtin.Str.occurrences (Str.ofString "0123456789") ⟨#[c]⟩ 0 (Str.ofString "0123456789").length 1).isEmpty))).bind notD = _
      rw [PySem.StrLaws.found_one]
      have e := figs_tl
      unfold TL.tl at e
      rw [e]
      rfl
    by_cases hc : c ∈ [48, 49, 50, 51, 52, 53, 54, 55, 56, 57]
    · have hd : Dig ((c - 48 : Nat) : Int) := by
        simp only [List.mem_cons, List.not_mem_nil, or_false] at hc
        constructor <;> omega
      have e : (⟨#[c]⟩ : Str) = sI ((c - 48 : Nat) : Int) := TL.ext_tl (by
        rw [sI_tl hd]
        show [c] = _
        simp only [List.mem_cons, List.not_mem_nil, or_false] at hc
        congr 1
        omega)
      have hi : intD (.str (⟨#[c]⟩ : Str)) = some (.int ((c - 48 : Nat) : Int)) := by
        show (if (⟨#[c]⟩ : Str).length ≤ 640 then (PySem.intText? ⟨#[c]⟩).map PyData.int else none) = _
        rw [if_pos (show (⟨#[c]⟩ : Str).length ≤ 640 from (by decide : 1 ≤ 640)), e]
        unfold sI
        rw [TL.int_num]
        · rfl
        · have := sI_len hd
          unfold sI at this
          rw [TL.len_tl, TL.tl_num] at this
          omega
      rw [show fig (⟨#[c]⟩ : Str) = some ((c - 48 : Nat) : Int) by rw [e, fig_sI hd]]
      refine runF_rt rfl ?_
      show Dg.b_P_number_of [some (.dat (.str ⟨#[c]⟩))] = _
      unfold Dg.b_P_number_of
      rw [seq_nx (ρ' := [some (.dat (.str ⟨#[c]⟩))]) (by
        rw [if_f (by simp [tOrF, h1, hw, hin, hc])]
        rfl)]
      exact ret_of (e1_of rfl hi)
    · rw [show fig (⟨#[c]⟩ : Str) = none by
        cases hf : fig (⟨#[c]⟩ : Str) with
        | none => rfl
        | some i =>
          obtain ⟨hd, e⟩ := fig_some hf
          have e2 := congrArg TL.tl e
          rw [sI_tl hd] at e2
          injection e2 with e3
          exact absurd (by
            have := hd.1
            have := hd.2
            simp only [List.mem_cons, List.not_mem_nil, or_false]
            omega) hc]
      refine runF_exc rfl ?_
      show Dg.b_P_number_of [some (.dat (.str ⟨#[c]⟩))] = _
      unfold Dg.b_P_number_of
      refine seq_exc ?_
      rw [if_t (by simp [tOrF, h1, hw, hin, hc])]
      rfl
  · rw [show fig w = none by
      cases hf : fig w with
      | none => rfl
      | some i =>
        obtain ⟨hd, e⟩ := fig_some hf
        rw [e, sI_len hd] at hw
        exact absurd rfl hw]
    refine runF_exc rfl ?_
    show Dg.b_P_number_of [some (.dat (.str w))] = _
    unfold Dg.b_P_number_of
    refine seq_exc ?_
    rw [if_t (by
      have : ¬ (w.length : Int) = 1 := by omega
      simp [tOrF, h1, this])]
    rfl
/-! ### lists of figures -/
def mapO {α β : Type} (f : α → Option β) : List α → Option (List β)
  | [] => some []
  | x :: xs => match f x with
    | none => none
    | some y => match mapO f xs with
      | none => none
      | some ys => some (y :: ys)
theorem mapO_cons {α β : Type} (f : α → Option β) (x : α) (xs : List α) : mapO f (x :: xs) = match f x with
    | none => none
    | some y => match mapO f xs with
      | none => none
      | some ys => some (y :: ys) := rfl
theorem compLX_figs {g : GF} {f : EF} {ρ : Dn.Env} : ∀ us : List Str, (∀ u ∈ us, ∃ ρ1, g (.str u) ρ = some ρ1 ∧ f ρ1 = match fig u with | some i => some (.ok (.int i)) | none => some (.exc "NoText")) →
    compLX g tYesF f ρ (sL us) = match mapO fig us with | some is => some (.ok (is.map .int)) | none => some (.exc "NoText")
  | [], _ => rfl
  | u :: us, h => by
    have ih := compLX_figs us fun x hx => h x (List.mem_cons_of_mem _ hx)
    obtain ⟨ρ1, h1, h2⟩ := h u List.mem_cons_self
    show compLX g tYesF f ρ (.str u :: sL us) = _
    unfold compLX
    rw [h1]
    simp only [tYesF, ret]
    rw [h2, ih, mapO_cons]
    cases fig u with
    | none => rfl
    | some i =>
      simp only [bnd_ok]
      cases mapO fig us with
      | none => rfl
      | some is => rfl
theorem forL_mx {α β : Type} {g : GF} {b : SF} {c : Str} (enc : α → D) (f : α → Option β) (I : List β → Dn.Env → Prop) (N : Nat) : ∀ (xs : List α) (acc : List β) (ρ : Dn.Env), acc.length + xs.length ≤ N → I acc ρ →
    (∀ x acc ρ, x ∈ xs → acc.length < N → I acc ρ → ∃ ρ1, g (enc x) ρ = some ρ1 ∧ match f x with | none => b ρ1 = some (.exc c) | some y => ∃ ρ2, b ρ1 = some (.nx ρ2) ∧ I (acc ++ [y]) ρ2) →
    match mapO f xs with | none => forL g b (xs.map enc) ρ = some (.exc c) | some ys => ∃ ρ', forL g b (xs.map enc) ρ = some (.nx ρ') ∧ I (acc ++ ys) ρ'
  | [], acc, ρ, _, i, _ => ⟨ρ, rfl, by rw [List.append_nil]; exact i⟩
  | x :: xs, acc, ρ, hN, i, h => by
    rw [List.length_cons] at hN
    obtain ⟨ρ1, h1, h2⟩ := h x acc ρ List.mem_cons_self (by omega) i
    rw [mapO_cons, List.map_cons]
    unfold forL
    rw [h1]
    cases hf : f x with
    | none =>
      rw [hf] at h2
      simp only at h2 ⊢
      rw [h2]
    | some y =>
      rw [hf] at h2
      simp only at h2
      obtain ⟨ρ2, h3, i2⟩ := h2
      have ih := forL_mx enc f I N xs (acc ++ [y]) ρ2 (by rw [List.length_append, List.length_singleton]; omega) i2 fun x a ρ hx => h x a ρ (List.mem_cons_of_mem _ hx)
      simp only
      rw [h3]
      cases hm : mapO f xs with
      | none =>
        rw [hm] at ih
        exact ih
      | some ys =>
        rw [hm] at ih
        obtain ⟨ρ', h4, i4⟩ := ih
        refine ⟨ρ', h4, ?_⟩
        rw [show acc ++ y :: ys = acc ++ [y] ++ ys by simp]
        exact i4
/-! ### read -/
/-- the figures of the link at a -/
noncomputable def lkF (ws : List Str) (a : Nat) : Option (List Int) := mapO fig ((ws.drop (a + 1)).take 3)
end Pe

set_option maxHeartbeats 4400000
namespace Pe
open Dn
open PySem (PyData Str)
theorem mapO_all {α β : Type} {f : α → Option β} {g : α → β} : ∀ {xs : List α}, (∀ x ∈ xs, f x = some (g x)) → mapO f xs = some (xs.map g)
  | [], _ => rfl
  | x :: xs, h => by
    rw [mapO_cons, h x List.mem_cons_self, mapO_all fun y hy => h y (List.mem_cons_of_mem _ hy)]
    rfl
theorem flat_drop : ∀ (ls : List Lk) (i : Nat), (ls.flatMap lw).drop (4 * i) = (ls.drop i).flatMap lw
  | ls, 0 => by simp
  | [], i + 1 => by simp
  | l :: ls, i + 1 => by
    rw [List.flatMap_cons, List.drop_succ_cons, ← flat_drop ls i, show 4 * (i + 1) = 4 + 4 * i by omega, ← List.drop_drop]
    rfl
def lk3 (l : Lk) : List Int := [l.1, l.2.1, l.2.2]
theorem lkF_wds {c : Int} {ls : List Lk} (hd : ∀ l ∈ ls, DL l) {i : Nat} (hi : i < ls.length) : lkF (wds c ls) (2 + 4 * i) = some (lk3 (at_ ls i)) := by
  have hg := at_get hi
  have hm : at_ ls i ∈ ls := List.mem_of_getElem? hg
  have e : (wds c ls).drop (2 + 4 * i + 1) = (lw (at_ ls i) ++ (ls.drop (i + 1)).flatMap lw).drop 1 := by
    have e1 : ls.drop i = at_ ls i :: ls.drop (i + 1) := by
      rw [List.drop_eq_getElem_cons hi]
      congr 1
      rw [List.getElem?_eq_getElem hi] at hg
      exact Option.some.inj hg
    unfold wds
    rw [show 2 + 4 * i + 1 = (4 * i + 1) + 1 + 1 by omega, List.drop_succ_cons, List.drop_succ_cons, ← List.drop_drop, flat_drop, e1, List.flatMap_cons]
  unfold lkF
  rw [e]
  show mapO fig [sI (at_ ls i).1, sI (at_ ls i).2.1, sI (at_ ls i).2.2] = _
  have h := hd _ hm
  rw [mapO_cons, fig_sI h.a, mapO_cons, fig_sI h.b, mapO_cons, fig_sI h.c]
  rfl
theorem range_at (ls : List Lk) : (List.range ls.length).map (at_ ls) = ls := by
  refine List.ext_getElem? fun i => ?_
  rw [List.getElem?_map]
  by_cases h : i < ls.length
  · rw [List.getElem?_range h, at_get h]
    rfl
  · rw [List.getElem?_eq_none (by rw [List.length_range]; omega), List.getElem?_eq_none (by omega)]
    rfl
theorem strNe (a b : Str) : neD (.str a) (.str b) = some (.bool (!(a == b))) := by
  simp [neD, okD, PyData.plain, PyData.depth, PyData.eqv]
/-! ### read, walked -/
def i3 (is : List Int) : D := .tuple (is.map .int)
noncomputable def bd_rd : SF := (Dn.sApp 2 (Dn.e1 Dn.tupD (Dn.eCompX (Dn.iSeq (Dn.eCut (Dn.eVarW 1) (Dn.oInt (Dn.e2 Dn.addD (Dn.eVarW 3) (Dn.eC (.int 1)))) (Dn.oInt (Dn.e2 Dn.addD (Dn.eVarW 3) (Dn.eC (.int 4)))))) (Dn.gName 5) Dn.tYesF (Dn.eCall Dg.P_number_of (Dn.aCons (Dn.eVar 5) Dn.aNil)) [5])))
theorem st_rd {t : Str} {ws : List Str} (hw : ∀ w ∈ ws, w.length ≤ 100000) (hW : ws.length ≤ 10000) (acc : List (List Int)) (ha : acc.length < 10000) (i : Nat) :
    match lkF ws (2 + 4 * i) with
    | none => bd_rd [some (.dat (.str t)), some (.dat (.list (sL ws))), some (.own (acc.map i3)), some (.dat (.int (2 + (i : Nat) * 4))), none, none] = some (.exc "NoText")
    | some is => bd_rd [some (.dat (.str t)), some (.dat (.list (sL ws))), some (.own (acc.map i3)), some (.dat (.int (2 + (i : Nat) * 4))), none, none] = some (.nx [some (.dat (.str t)), some (.dat (.list (sL ws))), some (.own ((acc ++ [is]).map i3)), some (.dat (.int (2 + (i : Nat) * 4))), none, none]) := by
  have hit : iSeq (Dn.eCut (Dn.eVarW 1) (Dn.oInt (Dn.e2 Dn.addD (Dn.eVarW 3) (Dn.eC (.int 1)))) (Dn.oInt (Dn.e2 Dn.addD (Dn.eVarW 3) (Dn.eC (.int 4))))) [some (.dat (.str t)), some (.dat (.list (sL ws))), some (.own (acc.map i3)), some (.dat (.int (2 + (i : Nat) * 4))), none, none] = some (.ok (sL ((ws.drop (2 + 4 * i + 1)).take 3))) := by
    have e1 : (2 : Int) + (i : Nat) * 4 + 1 = ((2 + 4 * i + 1 : Nat) : Int) := by omega
    have e4 : (2 : Int) + (i : Nat) * 4 + 4 = ((2 + 4 * i + 4 : Nat) : Int) := by omega
    rw [ev_iSeq, ev_cutL (ws := ws) (lo := some ((2 + 4 * i + 1 : Nat) : Int)) (hi := some ((2 + 4 * i + 4 : Nat) : Int)) rfl (by rw [← e1]; exact oI rfl) (by rw [← e4]; exact oI rfl), cutL_ab]
    rw [show 2 + 4 * i + 4 - (2 + 4 * i + 1) = 3 by omega]
    rfl
  have hcl : (sL ((ws.drop (2 + 4 * i + 1)).take 3)).length ≤ 1000000 := by
    unfold sL
    rw [List.length_map, List.length_take]
    omega
  have hc := compLX_figs (g := gName 5) (f := eCall Dg.P_number_of (aCons (eVar 5) aNil)) (ρ := wipe [some (.dat (.str t)), some (.dat (.list (sL ws))), some (.own (acc.map i3)), some (.dat (.int (2 + (i : Nat) * 4))), none, none] [5]) ((ws.drop (2 + 4 * i + 1)).take 3) fun u hu => ⟨[some (.dat (.str t)), some (.dat (.list (sL ws))), some (.own (acc.map i3)), some (.dat (.int (2 + (i : Nat) * 4))), none, some (.dat (.str u))], rfl, by
    show Dg.P_number_of [.str u] = _
    exact ev_number (hw u (List.mem_of_mem_drop (List.mem_of_mem_take hu)))⟩
  have he : e1 tupD (Dn.eCompX (Dn.iSeq (Dn.eCut (Dn.eVarW 1) (Dn.oInt (Dn.e2 Dn.addD (Dn.eVarW 3) (Dn.eC (.int 1)))) (Dn.oInt (Dn.e2 Dn.addD (Dn.eVarW 3) (Dn.eC (.int 4)))))) (Dn.gName 5) Dn.tYesF (Dn.eCall Dg.P_number_of (Dn.aCons (Dn.eVar 5) Dn.aNil)) [5]) [some (.dat (.str t)), some (.dat (.list (sL ws))), some (.own (acc.map i3)), some (.dat (.int (2 + (i : Nat) * 4))), none, none] = match lkF ws (2 + 4 * i) with
      | none => some (.exc "NoText")
      | some is => some (.ok (i3 is)) := by
    rw [ev_e1]
    unfold eCompX
    rw [hit, bnd_ok, if_pos hcl, hc]
    unfold lkF
    cases mapO fig ((ws.drop (2 + 4 * i + 1)).take 3) with
    | none => rfl
    | some is => rfl
  unfold bd_rd
  rw [ev_sApp]
  show match lkF ws (2 + 4 * i) with
    | none => bS _ (fun d => if (acc.map i3).length < 1000000 then _ else none) = _
    | some is => bS _ (fun d => if (acc.map i3).length < 1000000 then _ else none) = _
  rw [he]
  cases lkF ws (2 + 4 * i) with
  | none => rfl
  | some is =>
    show (if (acc.map i3).length < 1000000 then _ else none) = _
    rw [if_pos (by rw [List.length_map]; omega), List.map_append]
    rfl
end Pe

set_option maxHeartbeats 4400000
namespace Pe
open Dn
open PySem (PyData Str)
theorem rg24 {W k : Nat} (h : W = 4 * k + 2) (hW : W ≤ 10000) : range3D (.int 2) (.int (W : Nat)) (.int 4) = some ((List.range k).map fun (i : Nat) => .int (2 + (i : Nat) * 4)) := by
  have hs : PySem.Builtin.Range.rangeSize 2 (W : Nat) 4 = (k : Int) := by
    unfold PySem.Builtin.Range.rangeSize
    rw [if_pos (by decide)]
    split <;> omega
  have h1 : rgOk (W : Nat) = true := by
    unfold rgOk
    simp only [Bool.and_eq_true, decide_eq_true_eq]
    omega
  show (if (rgOk 2 && rgOk (W : Nat) && decide (1 ≤ (4 : Int) ∧ (4 : Int) ≤ 1000)) = true then some (rgL3 2 4 (PySem.Builtin.Range.rangeSize 2 (W : Nat) 4).toNat) else none) = _
  rw [if_pos (by rw [h1]; decide), hs]
  rfl
noncomputable def bd_r4 : SF := (Dn.sSeq (Dn.sAsg (Dn.gName 4) (Dn.eTup (Dn.aCons (Dn.eCall Dg.P_number_of (Dn.aCons (Dn.e2 Dn.ixD (Dn.eVarW 1) (Dn.eC (.int 1))) Dn.aNil)) (Dn.aCons (Dn.e1 Dn.tupD (Dn.eVarW 2)) Dn.aNil))))
    (Dn.sSeq (Dn.sIf (Dn.tOrF (Dn.tNotF (Dn.asB (Dn.eCall Dg.P_is_yard (Dn.aCons (Dn.eVar 4) Dn.aNil)))) (Dn.asB (Dn.e2 Dn.neD (Dn.eJoin2 (Dn.eC (.str " ")) (Dn.eCall Dg.P_yard_words (Dn.aCons (Dn.eVar 4) Dn.aNil))) (Dn.eVarW 0)))) (Dn.sExc "NoText") Dn.sNx)
    (Dn.sRet (Dn.eVar 4))))
theorem plain_i3 (c : Int) (Ls : List (List Int)) : (PyData.tuple [.int c, .tuple (Ls.map i3)]).plain = true := by
  simp only [PyData.plain, PyData.plainAll]
  rw [plainAll_of fun x hx => by
    obtain ⟨is, _, rfl⟩ := List.mem_map.mp hx
    show PyData.plainAll (is.map .int) = true
    exact plainG is]
  rfl
theorem st_r4 {t w1 : Str} {ws : List Str} (h1 : ixD (.list (sL ws)) (.int 1) = some (.str w1)) (hw1 : w1.length ≤ 100000) (Ls : List (List Int)) (hL : Ls.length ≤ 1000) (s3 : Option Sl) :
    bd_r4 [some (.dat (.str t)), some (.dat (.list (sL ws))), some (.own (Ls.map i3)), s3, none, none] = some (.exc "NoText") ∧ (∀ c ls, fig w1 = some c → Ls = ls.map lk3 → YP c ls → txt c ls ≠ t) ∨
    ∃ c ls, YP c ls ∧ txt c ls = t ∧ bd_r4 [some (.dat (.str t)), some (.dat (.list (sL ws))), some (.own (Ls.map i3)), s3, none, none] = some (.rt (encY c ls)) := by
  have hn := ev_number (w := w1) hw1
  cases hf : fig w1 with
  | none =>
    rw [hf] at hn
    refine .inl ⟨?_, fun c ls h => by cases h⟩
    unfold bd_r4
    refine seq_exc ?_
    simp [h1, hn, bS]
  | some c =>
    rw [hf] at hn
    let d : D := .tuple [.int c, .tuple (Ls.map i3)]
    have hlen : ∀ c' xs, d = .tuple [c', .tuple xs] → xs.length ≤ 1000 := fun c' xs e => by
      injection e with e
      simp at e
      rw [← e.2, List.length_map]
      exact hL
    have hy := ev_isyard (plain_i3 c Ls) hlen
    have hmap : ∀ ls : List Lk, (ls.map lk3).map i3 = ls.map encL := fun ls => by
      rw [List.map_map]
      rfl
    have e0 : bd_r4 [some (.dat (.str t)), some (.dat (.list (sL ws))), some (.own (Ls.map i3)), s3, none, none] = (Dn.sSeq (Dn.sIf (Dn.tOrF (Dn.tNotF (Dn.asB (Dn.eCall Dg.P_is_yard (Dn.aCons (Dn.eVar 4) Dn.aNil)))) (Dn.asB (Dn.e2 Dn.neD (Dn.eJoin2 (Dn.eC (.str " ")) (Dn.eCall Dg.P_yard_words (Dn.aCons (Dn.eVar 4) Dn.aNil))) (Dn.eVarW 0)))) (Dn.sExc "NoText") Dn.sNx)
    (Dn.sRet (Dn.eVar 4))) [some (.dat (.str t)), some (.dat (.list (sL ws))), some (.own (Ls.map i3)), s3, some (.dat d), none] := by
      unfold bd_r4
      refine seq_nx ?_
      have g2 : e1 tupD (eVarW 2) [some (.dat (.str t)), some (.dat (.list (sL ws))), some (.own (Ls.map i3)), s3, none, none] = some (.ok (.tuple (Ls.map i3))) := rfl
      have e3 : eCall Dg.P_number_of (aCons (e2 ixD (eVarW 1) (eC (.int 1))) aNil) [some (.dat (.str t)), some (.dat (.list (sL ws))), some (.own (Ls.map i3)), s3, none, none] = some (.ok (.int c)) := by
        simp [h1, hn]
      rw [ev_sAsg, ev_tup, ev_aCons, e3, bnd_ok, ev_aCons, g2]
      rfl
    rw [e0]
    cases hyr : yrB d with
    | false =>
      rw [hyr] at hy
      refine .inl ⟨?_, fun c' ls h1 h2 h3 => ?_⟩
      · refine seq_exc ?_
        rw [if_t (by simp [tOrF, tNotF, hy, d])]
        rfl
      · cases h1
        rw [show d = encY c ls by
          show PyData.tuple [.int c, .tuple (Ls.map i3)] = _
          rw [h2, hmap]
          rfl, yrB_enc.mpr h3] at hyr
        cases hyr
    | true =>
      rw [hyr] at hy
      obtain ⟨c', ls, hd, yp⟩ := yrB_iff.mp hyr
      have hd' : PyData.tuple [.int c, .tuple (Ls.map i3)] = encY c' ls := hd
      have hll : ls.length ≤ 1000 := by
        have := hlen (.int c') (ls.map encL) hd
        rwa [List.length_map] at this
      have hwd := ev_words yp.dig.1 yp.dig.2 hll
      have hj : (Dn.eJoin2 (Dn.eC (.str " ")) (Dn.eCall Dg.P_yard_words (Dn.aCons (Dn.eVar 4) Dn.aNil))) [some (.dat (.str t)), some (.dat (.list (sL ws))), some (.own (Ls.map i3)), s3, some (.dat d), none] = some (.ok (.str (txt c' ls))) := ev_joinW yp.dig.1 yp.dig.2 hll (by
        show Dg.P_yard_words [d] = _
        rw [hd]
        exact hwd)
      have hyd : (Dn.eCall Dg.P_is_yard (Dn.aCons (Dn.eVar 4) Dn.aNil)) [some (.dat (.str t)), some (.dat (.list (sL ws))), some (.own (Ls.map i3)), s3, some (.dat d), none] = some (.ok (.bool true)) := hy
      have hte : ∀ b, (txt c' ls == t) = b → (Dn.tOrF (Dn.tNotF (Dn.asB (Dn.eCall Dg.P_is_yard (Dn.aCons (Dn.eVar 4) Dn.aNil)))) (Dn.asB (Dn.e2 Dn.neD (Dn.eJoin2 (Dn.eC (.str " ")) (Dn.eCall Dg.P_yard_words (Dn.aCons (Dn.eVar 4) Dn.aNil))) (Dn.eVarW 0)))) [some (.dat (.str t)), some (.dat (.list (sL ws))), some (.own (Ls.map i3)), s3, some (.dat d), none] = some (.ok (!b)) := fun b hb => by
        unfold tOrF tNotF
        rw [ev_asB, hyd, ev_asB, e2_of hj rfl (strNe _ _), hb]
        rfl
      by_cases ht : txt c' ls = t
      · refine .inr ⟨c', ls, yp, ht, ?_⟩
        rw [seq_nx (by
          rw [if_f (hte true (by rw [ht]; simp))]
          rfl)]
        rw [ret_of (d := d) rfl, hd]
      · refine .inl ⟨?_, fun c2 ls2 h1 h2 h3 h4 => ?_⟩
        · refine seq_exc ?_
          rw [if_t (hte false (by simpa using ht))]
          rfl
        · cases h1
          rw [h2, hmap] at hd'
          obtain ⟨rfl, rfl⟩ := encY_inj (show encY c ls2 = encY c' ls from hd')
          exact ht h4
theorem wsOf_txt {c : Int} {ls : List Lk} {t : Str} (y : YP c ls) (e : txt c ls = t) : wsOf t = wds c ls := by
  show PySem.Txt.split t sp = _
  rw [← e, ← join_wds]
  refine TL.split_join (s := 32) (S := []) (by
    show TL.tl (Str.ofString " ") = _
    rw [TL.tl_ofString]
    decide +kernel) (by decide +kernel) (by unfold wds; simp) fun p hp => ?_
  have hfree : ∀ i, Dig i → 32 ∉ TL.tl (sI i) := fun i hi h => by
    rw [sI_tl hi, List.mem_singleton] at h
    omega
  have hl1 : 32 ∉ TL.tl (Str.ofString "link") := by
    rw [TL.tl_ofString]
    decide +kernel
  have hl2 : 32 ∉ TL.tl (Str.ofString "yard") := by
    rw [TL.tl_ofString]
    decide +kernel
  unfold wds at hp
  rcases List.mem_cons.mp hp with rfl | hp
  · exact hl2
  · rcases List.mem_cons.mp hp with rfl | hp
    · exact hfree _ y.dig.1
    · obtain ⟨l, hl, hp⟩ := List.mem_flatMap.mp hp
      have hd := y.dig.2 l hl
      unfold lw at hp
      simp only [List.mem_cons, List.not_mem_nil, or_false] at hp
      rcases hp with rfl | rfl | rfl | rfl
      · exact hl1
      · exact hfree _ hd.a
      · exact hfree _ hd.b
      · exact hfree _ hd.c
theorem ev_read {t : Str} (ht : t.length ≤ 2000) : Dg.P_read [.str t] = some (.exc "NoText") ∧ (∀ c ls, YP c ls → txt c ls ≠ t) ∨ ∃ c ls, YP c ls ∧ txt c ls = t ∧ Dg.P_read [.str t] = some (.ok (encY c ls)) := by
  let ws := wsOf t
  have hws : wlen ws + ws.length = t.length + 1 := wsOf_len t
  have hne : 1 ≤ ws.length := List.length_pos_iff.mpr (wsOf_ne t)
  have hwl : ∀ w ∈ ws, w.length ≤ 100000 := fun w hw => by
    have := wlen_mem hw
    omega
  have hlw := len_sL ws
  -- a text of a yard
  have hcomp : ∀ c ls, YP c ls → txt c ls = t → ws = wds c ls := fun c ls y e => wsOf_txt y e
  suffices h : (Dg.b_P_read [some (.dat (.str t)), none, none, none, none, none] = some (.exc "NoText") ∧ (∀ c ls, YP c ls → txt c ls ≠ t)) ∨ ∃ c ls, YP c ls ∧ txt c ls = t ∧ Dg.b_P_read [some (.dat (.str t)), none, none, none, none, none] = some (.rt (encY c ls)) by
    rcases h with ⟨h1, h2⟩ | ⟨c, ls, h1, h2, h3⟩
    · exact .inl ⟨runF_exc rfl h1, h2⟩
    · exact .inr ⟨c, ls, h1, h2, runF_rt rfl h3⟩
  unfold Dg.b_P_read
  rw [seq_nx (ρ' := [some (.dat (.str t)), none, none, none, none, none]) (by simp [tNotF, isiD])]
  rw [seq_nx (ρ' := [some (.dat (.str t)), some (.dat (.list (sL ws))), none, none, none, none]) (by
    rw [ev_sAsg, ev_split rfl (by omega)]
    rfl)]
  have hm : modD (.int (ws.length : Nat)) (.int 4) = some (.int ((ws.length : Int) % 4)) := modI (by decide)
  by_cases h4 : ws.length % 4 = 2
  · obtain ⟨k, hk⟩ : ∃ k, ws.length = 4 * k + 2 := ⟨ws.length / 4, by omega⟩
    have h4' : (ws.length : Int) % 4 = 2 := by omega
    rw [seq_nx (ρ' := [some (.dat (.str t)), some (.dat (.list (sL ws))), none, none, none, none]) (by simp [hlw, hm, h4'])]
    rw [seq_nx (ρ' := [some (.dat (.str t)), some (.dat (.list (sL ws))), some (.own []), none, none, none]) rfl]
    have hrg : iRng3 (eC (.int 2)) (e1 lenD (eVarW 1)) (eC (.int 4)) [some (.dat (.str t)), some (.dat (.list (sL ws))), some (.own []), none, none, none] = some (.ok ((List.range k).map fun (i : Nat) => .int (2 + (i : Nat) * 4))) := by
      unfold iRng3
      rw [ev_c, bnd_ok, e1_of rfl hlw, bnd_ok, ev_c, bnd_ok, rg24 hk (by omega)]
      rfl
    have hloop := forL_mx (g := gName 3) (b := bd_rd) (c := "NoText") (fun (i : Nat) => PyData.int (2 + (i : Nat) * 4)) (fun i => lkF ws (2 + 4 * i)) (fun acc ρ => ∃ s3, ρ = [some (.dat (.str t)), some (.dat (.list (sL ws))), some (.own (acc.map i3)), s3, none, none]) k (List.range k) [] [some (.dat (.str t)), some (.dat (.list (sL ws))), some (.own []), none, none, none] (by rw [List.length_range]; exact Nat.le_of_eq (Nat.zero_add k)) ⟨none, rfl⟩ (by
      rintro i acc ρ hi ha ⟨s3, rfl⟩
      refine ⟨[some (.dat (.str t)), some (.dat (.list (sL ws))), some (.own (acc.map i3)), some (.dat (.int (2 + (i : Nat) * 4))), none, none], rfl, ?_⟩
      have h := st_rd (t := t) hwl (by omega) acc (by omega) i
      cases hf : lkF ws (2 + 4 * i) with
      | none =>
        rw [hf] at h
        exact h
      | some is =>
        rw [hf] at h
        exact ⟨_, h, _, rfl⟩)
    have hcm : ∀ c ls, YP c ls → txt c ls = t → ws = wds c ls ∧ mapO (fun i => lkF ws (2 + 4 * i)) (List.range k) = some (ls.map lk3) := fun c ls y e => by
      have hw := hcomp c ls y e
      have hkl : k = ls.length := by
        have : ws.length = 2 + 4 * ls.length := by rw [hw, wds_len]
        omega
      refine ⟨hw, ?_⟩
      rw [mapO_all (g := fun i => lk3 (at_ ls i)) fun i hi => by
        rw [hw]
        exact lkF_wds y.dig.2 (by rw [← hkl]; exact List.mem_range.mp hi)]
      rw [hkl, show (List.range ls.length).map (fun i => lk3 (at_ ls i)) = ((List.range ls.length).map (at_ ls)).map lk3 by rw [List.map_map]; rfl, range_at]
    obtain ⟨w1, hw1, hix⟩ := ix_sL (ws := ws) (i := 1) (by decide) (by omega)
    cases hmo : mapO (fun i => lkF ws (2 + 4 * i)) (List.range k) with
    | none =>
      rw [hmo] at hloop
      refine .inl ⟨?_, fun c ls y e => ?_⟩
      · refine seq_exc ?_
        rw [ev_sFor, hrg, bS_ok]
        exact hloop
      · rw [(hcm c ls y e).2] at hmo
        cases hmo
    | some Ls =>
      rw [hmo] at hloop
      obtain ⟨ρ', hf, s3, rfl⟩ := hloop
      rw [List.nil_append] at hf
      have hLs : Ls.length ≤ 1000 := by
        have hlm : ∀ (f : Nat → Option (List Int)) (xs : List Nat) (ys : List (List Int)), mapO f xs = some ys → ys.length = xs.length := fun f xs => by
          induction xs with
          | nil =>
            intro ys h
            cases h
            rfl
          | cons x xs ih =>
            intro ys h
            rw [mapO_cons] at h
            split at h
            · cases h
            · split at h
              · cases h
              · rename_i ys' h'
                cases h
                rw [List.length_cons, List.length_cons, ih _ h']
        have := hlm _ _ _ hmo
        rw [List.length_range] at this
        omega
      rw [seq_nx (ρ' := [some (.dat (.str t)), some (.dat (.list (sL ws))), some (.own (Ls.map i3)), s3, none, none]) (by
        rw [ev_sFor, hrg, bS_ok]
        exact hf)]
      rcases st_r4 (t := t) hix (hwl _ hw1) Ls hLs s3 with ⟨h1, h2⟩ | h
      · refine .inl ⟨h1, fun c ls y e => ?_⟩
        obtain ⟨hw, hm2⟩ := hcm c ls y e
        rw [hmo] at hm2
        cases hm2
        have : w1 = sI c := by
          rw [hw] at hix
          have h' : ixD (.list (sL (wds c ls))) (.int 1) = some (.str (sI c)) := by
            show (ixNat (sL (wds c ls)).length 1).bind _ = _
            have e1 : ixNat (sL (wds c ls)).length 1 = some 1 := by
              unfold ixNat sL
              rw [List.length_map, wds_len, if_pos (by decide), if_pos (by omega)]
              rfl
            rw [e1]
            rfl
          rw [h'] at hix
          injection hix with hix
          injection hix with hix
          exact hix.symm
        exact h2 c ls (by rw [this, fig_sI y.dig.1]) rfl y e
      · exact .inr h
  · refine .inl ⟨?_, fun c ls y e => ?_⟩
    · have h4' : ¬ (ws.length : Int) % 4 = 2 := by omega
      rw [seq_exc (c := "NoText") (by
        rw [if_t (by simp [hlw, hm, h4'])]
        rfl)]
    · have := hcomp c ls y e
      rw [this, wds_len] at h4
      omega
end Pe

set_option maxHeartbeats 4400000
namespace Pe
open Dn
open PySem (PyData Str)
/-! ### the drawn yard is a yard -/
theorem dataLt3 (a b : Lk) : PySem.W.dataLt (encL a) (encL b) = decide (lk3 a < lk3 b) := by
  have h := PySem.W.dataLt_ints (lk3 a) (lk3 b)
  rw [← h]
  unfold encL
  rw [PySem.W.dataLt_tuple]
  rfl
theorem lt2_of {a b : Lk} (h : leD_ (encL a) (encL b) = true) (hn : ky a ≠ ky b) : lt2 a b = true := by
  unfold leD_ at h
  rw [dataLt3, Bool.not_eq_true', decide_eq_false_iff_not] at h
  unfold lk3 at h
  rw [List.cons_lt_cons_iff, List.cons_lt_cons_iff] at h
  unfold lt2
  rw [decide_eq_true_eq]
  have hk : ¬ (a.1 = b.1 ∧ a.2.1 = b.2.1) := fun ⟨h1, h2⟩ => hn (by
    unfold ky
    rw [h1, h2])
  have h1 : ¬ b.1 < a.1 := fun k => h (.inl k)
  have h2 : ¬ (b.1 = a.1 ∧ b.2.1 < a.2.1) := fun ⟨k1, k2⟩ => h (.inr ⟨k1, .inl k2⟩)
  omega
theorem ord_of : ∀ {ls : List Lk}, (ls.map encL).Pairwise (fun a b => leD_ a b = true) → ND ls → ordB ls = true
  | [], _, _ => rfl
  | [a], _, _ => rfl
  | a :: b :: r, h, hn => by
    rw [List.map_cons, List.pairwise_cons] at h
    unfold ND at hn
    rw [List.map_cons, List.nodup_cons] at hn
    have ih := ord_of h.2 hn.2
    have h1 := h.1 (encL b) (by simp)
    have h2 : ky a ≠ ky b := fun e => hn.1 (by rw [e]; simp)
    show ((a :: b :: r).zip (b :: r)).all (fun p => lt2 p.1 p.2) = true
    rw [List.zip_cons_cons, List.all_cons, Bool.and_eq_true]
    exact ⟨lt2_of h1 h2, ih⟩
theorem yp_drawn {c : Int} {ls : List Lk} (h1 : 1 ≤ c) (h5 : c ≤ 5) (z : Z c ls) (hw : ∀ l ∈ ls, 1 ≤ l.2.2 ∧ l.2.2 ≤ 4) (hs : ∃ L, ls.map encL = sortL L) : YP c ls := by
  refine ⟨h1, h5, fun l hl => ?_, ?_, conn_Z z⟩
  · have q := z.rng l hl
    have r := hw l hl
    exact ⟨q.1, q.2.1, q.2.2, r.1, r.2⟩
  · obtain ⟨L, hL⟩ := hs
    refine ord_of ?_ z.dis
    rw [hL]
    exact List.pairwise_mergeSort leD_trans leD_total _
end Pe

set_option maxHeartbeats 4400000
namespace Pe
open Dn
open PySem (PyData Str)
theorem mx_nn (ns : List Int) (k : Nat) : 0 ≤ mx ns k := (ev_mixed ns k).choose_spec.2.1
theorem mx_bd (ns : List Int) (k : Nat) : 0 ≤ mx ns k ∧ mx ns k < 2147483629 := by
  have := (ev_mixed ns k).choose_spec.2
  exact ⟨this.1, by first | exact this.2 | exact this.2.1⟩
theorem plain_Y (c : Int) (ls : List Lk) : (encY c ls).plain = true := by
  simp only [encY, encLs, PyData.plain, PyData.plainAll]
  rw [plainAll_of fun x hx => by
    obtain ⟨l, _, rfl⟩ := List.mem_map.mp hx
    rfl]
  rfl
theorem depth_Y (c : Int) (ls : List Lk) : (encY c ls).depth ≤ 40 := by
  have h : PyData.depthAll (ls.map encL) ≤ 10 := depthAll_of fun x hx => by
    obtain ⟨l, _, rfl⟩ := List.mem_map.mp hx
    simp [encL, PyData.depth, PyData.depthAll]
  simp only [encY, encLs, PyData.depth, PyData.depthAll]
  omega
theorem eq_Y (c : Int) (ls : List Lk) : eqD (encY c ls) (encY c ls) = some (.bool true) := by
  have h : okD (encY c ls) = true := by
    unfold okD
    rw [plain_Y, decide_eq_true (by have := depth_Y c ls; omega)]
    rfl
  unfold eqD
  rw [h, PySem.SeqAt.eqv_refl_plain _ (plain_Y c ls)]
  rfl
theorem flat_inj : ∀ {a b : List Lk}, (∀ l ∈ a, DL l) → (∀ l ∈ b, DL l) → a.flatMap lw = b.flatMap lw → a = b
  | [], [], _, _, _ => rfl
  | [], l :: b, _, _, h => by
    rw [List.flatMap_cons] at h
    cases h
  | l :: a, [], _, _, h => by
    rw [List.flatMap_cons] at h
    cases h
  | x :: a, y :: b, ha, hb, h => by
    have hx := ha x List.mem_cons_self
    have hy := hb y List.mem_cons_self
    rw [List.flatMap_cons, List.flatMap_cons] at h
    have h1 : Str.ofString "link" :: sI x.1 :: sI x.2.1 :: sI x.2.2 :: a.flatMap lw = Str.ofString "link" :: sI y.1 :: sI y.2.1 :: sI y.2.2 :: b.flatMap lw := h
    injection h1 with _ h1
    injection h1 with e1 h1
    injection h1 with e2 h1
    injection h1 with e3 h1
    rw [flat_inj (fun l hl => ha l (List.mem_cons_of_mem _ hl)) (fun l hl => hb l (List.mem_cons_of_mem _ hl)) h1]
    congr 1
    exact Prod.ext (sI_inj hx.a hy.a e1) (Prod.ext (sI_inj hx.b hy.b e2) (sI_inj hx.c hy.c e3))
theorem txt_inj {c c' : Int} {ls ls' : List Lk} (y : YP c ls) (y' : YP c' ls') (h : txt c ls = txt c' ls') : c = c' ∧ ls = ls' := by
  have h1 := wsOf_txt y rfl
  rw [wsOf_txt y' h.symm] at h1
  unfold wds at h1
  injection h1 with _ h1
  injection h1 with e1 h1
  exact ⟨(sI_inj y'.dig.1 y.dig.1 e1).symm, (flat_inj y'.dig.2 y.dig.2 h1).symm⟩
theorem yp_len {c : Int} {ls : List Lk} (y : YP c ls) {t : Str} (h : txt c ls = t) (ht : t.length ≤ 2000) : ls.length ≤ 1000 := by
  have := txt_len y.dig.1 (ls := ls) y.dig.2
  rw [h] at this
  omega
/-- found -/
theorem ev_found {t : Str} (ht : t.length ≤ 2000) : Dg.L_found [.str t] = some (.ok .none) ∧ (∀ c ls, YP c ls → txt c ls ≠ t) ∨ ∃ c ls, YP c ls ∧ txt c ls = t ∧ Dg.L_found [.str t] = some (.ok (encY c ls)) := by
  have hno : noOwn [some (.dat (.str t)), none, none, none, none] = true := rfl
  rcases ev_read ht with ⟨h, hh⟩ | ⟨c, ls, y, e, h⟩
  · refine .inl ⟨runF_ok rfl ?_, hh⟩
    show Dg.b_L_found [some (.dat (.str t)), none, none, none, none] = _
    unfold Dg.b_L_found
    refine seq_rt ?_
    unfold sTry
    rw [if_pos hno]
    have hs : sAsg (gName 1) (eCall Dg.P_read (aCons (eVar 0) aNil)) [some (.dat (.str t)), none, none, none, none] = some (.exc "NoText") := by
      rw [ev_sAsg]
      show bS (Dg.P_read [.str t]) _ = _
      rw [h]
      rfl
    rw [hs]
    simp
  · refine .inr ⟨c, ls, y, e, runF_ok rfl ?_⟩
    show Dg.b_L_found [some (.dat (.str t)), none, none, none, none] = _
    unfold Dg.b_L_found
    rw [seq_nx (ρ' := [some (.dat (.str t)), some (.dat (encY c ls)), none, none, none]) (by
      unfold sTry
      rw [if_pos hno]
      have hs : sAsg (gName 1) (eCall Dg.P_read (aCons (eVar 0) aNil)) [some (.dat (.str t)), none, none, none, none] = some (.nx [some (.dat (.str t)), some (.dat (encY c ls)), none, none, none]) := by
        rw [ev_sAsg]
        show bS (Dg.P_read [.str t]) _ = _
        rw [h]
        rfl
      rw [hs]
      rfl)]
    exact ret_of (e2_of (a := .list [encY c ls, .tuple []]) (b := .int 0) rfl rfl rfl)
theorem law_body (ns : List Int) : Dg.b_P_law [some (.dat (.list (ns.map .int))), none, none, none, none, none, none] = some (.rt (.bool true)) := by
  have m0 : Dg.L_mixed [.list (ns.map .int), .int 0] = some (.ok (.int (mx ns 0))) := ev_mx ns 0
  have m1 : Dg.L_mixed [.list (ns.map .int), .int 1] = some (.ok (.int (mx ns 1))) := ev_mx ns 1
  obtain ⟨c, ls, ⟨hc1, hc2, z, hy⟩, hw, hl, hso⟩ := ev_yard3 (mx ns 0) (m := 5) (w := 4) (by decide) (by decide)
  have yp := yp_drawn hc1 hc2 z hw hso
  have hl8 : ls.length ≤ 8 := by omega
  have hwr := ev_Lwritten yp.dig.1 yp.dig.2 (show ls.length ≤ 1000 by omega)
  have htl := txt_len yp.dig.1 (ls := ls) yp.dig.2
  have n1 := mx_nn ns 1
  generalize (PyData.list (ns.map PyData.int)) = dn at m0 m1 ⊢
  generalize hN : mx ns 1 = N at m1 n1
  unfold Dg.b_P_law
  rw [seq_nx (ρ' := [some (.dat dn), some (.dat (encY c ls)), none, none, none, none, none]) (by simp [m0, hy])]
  rw [seq_nx (ρ' := [some (.dat dn), some (.dat (encY c ls)), some (.dat (.str (txt c ls))), none, none, none, none]) (by simp [hwr])]
  rw [seq_nx (ρ' := [some (.dat dn), some (.dat (encY c ls)), some (.dat (.str (txt c ls))), some (.dat (.int N)), none, none, none]) (by simp [m1])]
  rw [seq_nx (ρ' := [some (.dat dn), some (.dat (encY c ls)), some (.dat (.str (txt c ls))), some (.dat (.int N)), some (.dat (.str (txt c ls))), none, none]) (by simp)]
  have q3 := emod_in (a := N) (b := 3) (by decide)
  have q2 := emod_in (a := N / 3) (b := 2) (by decide)
  generalize hm : N % 3 * (1 + N / 3 % 2) = m
  have hmb : 0 ≤ m ∧ m ≤ 4 := by
    have h1 : N % 3 = 0 ∨ N % 3 = 1 ∨ N % 3 = 2 := by omega
    have h2 : N / 3 % 2 = 0 ∨ N / 3 % 2 = 1 := by omega
    rw [← hm]
    rcases h1 with h1 | h1 | h1 <;> rcases h2 with h2 | h2 <;> rw [h1, h2] <;> decide
  have hrg : iRng1 (Dn.e2 Dn.mulD (Dn.e2 Dn.modD (Dn.eVarW 3) (Dn.eC (.int 3))) (Dn.e2 Dn.addD (Dn.eC (.int 1)) (Dn.e2 Dn.modD (Dn.e2 Dn.fdivD (Dn.eVarW 3) (Dn.eC (.int 3))) (Dn.eC (.int 2))))) [some (.dat dn), some (.dat (encY c ls)), some (.dat (.str (txt c ls))), some (.dat (.int N)), some (.dat (.str (txt c ls))), none, none] = some (.ok ((nums m).map fun p => .int (p - 1))) := by
    have hmul : mulD (.int (N % 3)) (.int (1 + N / 3 % 2)) = some (.int m) := by rw [mul_l (by omega), hm]
    simp only [ev_iRng1, ev_e2, ev_c, ev_varW, List.getElem?_cons_succ, List.getElem?_cons_zero, ev_ret, bnd_ok, modI (a := N) (b := 3) (by decide), fdivI (a := N) (b := 3) (by decide), modI (a := N / 3) (b := 2) (by decide), ev_addI, lft_some, hmul, rng0 hmb.1 (show m ≤ 100 by omega)]
  have hnl : (nums m).length ≤ 4 := by rw [nums_len]; omega
  obtain ⟨ρ', hf, t, s5, rfl, ht⟩ := forL_I (g := gName 5) (b := (Dn.sAsg (Dn.gName 4) (Dn.eCall Dg.L_changed (Dn.aCons (Dn.eVar 4) (Dn.aCons (Dn.eCall Dg.L_drawn (Dn.aCons (Dn.eVar 3) (Dn.aCons (Dn.eVar 5) Dn.aNil))) Dn.aNil))))) (fun p : Int => PyData.int (p - 1))
    (fun pre ρ => ∃ t s5, ρ = [some (.dat dn), some (.dat (encY c ls)), some (.dat (.str (txt c ls))), some (.dat (.int N)), some (.dat (.str t)), s5, none] ∧ t.length + 30 ≤ 124 * 2 ^ pre.length) (nums m) [] [some (.dat dn), some (.dat (encY c ls)), some (.dat (.str (txt c ls))), some (.dat (.int N)), some (.dat (.str (txt c ls))), none, none] ⟨txt c ls, none, rfl, by
      rw [htl]
      show _ ≤ 124 * 1
      omega⟩ (by
    rintro pr x po ρ hp ⟨t, s5, rfl, ht⟩
    rw [List.nil_append] at hp
    have hpl : pr.length ≤ 4 := by
      have := congrArg List.length hp
      rw [List.length_append] at this
      omega
    have hpow : 2 ^ pr.length ≤ 2 ^ 4 := Nat.pow_le_pow_right (by decide) hpl
    have h16 : (2 : Nat) ^ 4 = 16 := by decide
    have ht2 : t.length ≤ 10000 := by omega
    obtain ⟨t', h1, h2⟩ := ev_changed (n := dr N (x - 1)) ht2 (dr_bd N (x - 1)).1
    refine ⟨[some (.dat dn), some (.dat (encY c ls)), some (.dat (.str (txt c ls))), some (.dat (.int N)), some (.dat (.str t)), some (.dat (.int (x - 1))), none], _, rfl, ?_, t', some (.dat (.int (x - 1))), rfl, ?_⟩
    · simp [ev_drawn, h1]
    · rw [List.length_append, List.length_singleton, Nat.pow_succ]
      omega)
  rw [List.nil_append] at ht
  have hpow : 2 ^ (nums m).length ≤ 2 ^ 4 := Nat.pow_le_pow_right (by decide) hnl
  have h16 : (2 : Nat) ^ 4 = 16 := by decide
  have ht2 : t.length ≤ 2000 := by omega
  rw [seq_nx (ρ' := [some (.dat dn), some (.dat (encY c ls)), some (.dat (.str (txt c ls))), some (.dat (.int N)), some (.dat (.str t)), s5, none]) (by
    rw [ev_sFor, hrg, bS_ok]
    exact hf)]
  have hyd : ∀ c' ls', YP c' ls' → ls'.length ≤ 1000 → Dg.L_is_yard [encY c' ls'] = some (.ok (.bool true)) := fun c' ls' y h => by
    rw [ev_Lisyard (plain_Y c' ls') (depth_Y c' ls') (fun c2 xs e => by
      unfold encY encLs at e
      injection e with e
      simp at e
      rw [← e.2, List.length_map]
      exact h), yrB_enc.mpr y]
  rcases ev_found ht2 with ⟨h, hh⟩ | ⟨c', ls', y, e, h⟩
  · have hne : (t == txt c ls) = false := by
      have := hh c ls yp
      simpa using fun q : t = txt c ls => this q.symm
    rw [seq_nx (ρ' := [some (.dat dn), some (.dat (encY c ls)), some (.dat (.str (txt c ls))), some (.dat (.int N)), some (.dat (.str t)), s5, some (.dat .none)]) (by simp [h])]
    rw [seq_nx (ρ' := [some (.dat dn), some (.dat (encY c ls)), some (.dat (.str (txt c ls))), some (.dat (.int N)), some (.dat (.str t)), s5, some (.dat .none)]) (by
      rw [if_f (by
        rw [ev_asB, e2_of rfl rfl (strEq t (txt c ls)), hne]
        rfl)]
      rfl)]
    rfl
  · have hl' := yp_len y e ht2
    rw [seq_nx (ρ' := [some (.dat dn), some (.dat (encY c ls)), some (.dat (.str (txt c ls))), some (.dat (.int N)), some (.dat (.str t)), s5, some (.dat (encY c' ls'))]) (by simp [h])]
    by_cases hq : t = txt c ls
    · obtain ⟨rfl, rfl⟩ := txt_inj y yp (e.trans hq)
      refine seq_rt ?_
      rw [if_t (by
        rw [ev_asB, e2_of rfl rfl (strEq t (txt c' ls')), hq]
        simp)]
      refine ret_of ?_
      rw [ev_and, ev_asB, e2_of rfl rfl (eq_Y c' ls')]
      show Dg.L_is_yard [encY c' ls'] = _
      exact hyd c' ls' y hl'
    · rw [seq_nx (ρ' := [some (.dat dn), some (.dat (encY c ls)), some (.dat (.str (txt c ls))), some (.dat (.int N)), some (.dat (.str t)), s5, some (.dat (encY c' ls'))]) (by
        rw [if_f (by
          have hne : (t == txt c ls) = false := by simpa using hq
          rw [ev_asB, e2_of rfl rfl (strEq t (txt c ls)), hne]
          rfl)]
        rfl)]
      refine ret_of ?_
      have hlw := ev_Lwritten y.dig.1 y.dig.2 hl'
      have g1 : eCall Dg.L_is_yard (aCons (eVar 6) aNil) [some (.dat dn), some (.dat (encY c ls)), some (.dat (.str (txt c ls))), some (.dat (.int N)), some (.dat (.str t)), s5, some (.dat (encY c' ls'))] = some (.ok (.bool true)) := hyd c' ls' y hl'
      have g2 : eCall Dg.L_written (aCons (eVar 6) aNil) [some (.dat dn), some (.dat (encY c ls)), some (.dat (.str (txt c ls))), some (.dat (.int N)), some (.dat (.str t)), s5, some (.dat (encY c' ls'))] = some (.ok (.str (txt c' ls'))) := hlw
      rw [ev_or, ev_asB, e2_of (a := encY c' ls') (b := .none) (r := .bool false) rfl rfl rfl]
      show eAnd _ _ _ = _
      rw [ev_and, ev_asB, g1]
      show e2 eqD _ _ _ = _
      rw [e2_of g2 rfl (strEq _ _), e]
      simp
end Pe
theorem Wk.law_true (ns : List Int) (hl : ns.length ≤ 63) : Dn.noX (Dn.runF 1 7 Dg.b_P_law) [.list (ns.map .int)] = some (.ok (.bool true)) := Pe.runF_ok rfl (Pe.law_body ns)

set_option maxHeartbeats 8800000
namespace Wk
open PySem PySem.Spec PyProof.Rows L2 Dw
def topS (i : Nat) : Stmt := PySem.Challenge.pw_sandyard_k03_whole_read.main.body.getD i (.Pass ⟨0, 0, 0, 0⟩)
abbrev s__law_drawn : Stmt := topS 23
abbrev N__law_drawn : List Str := ["_law_number_here", "_law_k", "_law_drawn_here"]
theorem sc__law_drawn : FnScope N__law_drawn ["_law_number_here", "_law_k"] (defScope s__law_drawn) := ⟨rfl, rfl, rfl, by decide +kernel, rfl, by decide +kernel, by decide +kernel⟩
abbrev s__law_yard : Stmt := topS 24
abbrev N__law_yard : List Str := ["_law_number_here", "_law_most", "_law_wide", "_law_count", "_law_found_here", "_law_place", "_law_k", "_law_low", "_law_high", "_law_names", "_law_at", "_law_links", "_law_one", "_law_other"]
theorem sc__law_yard : FnScope N__law_yard ["_law_number_here", "_law_most", "_law_wide"] (defScope s__law_yard) := ⟨rfl, rfl, rfl, by decide +kernel, rfl, by decide +kernel, by decide +kernel⟩
abbrev s__law_written : Stmt := topS 29
abbrev N__law_written : List Str := ["_law_yard_here", "_law_found_here", "_law_link", "_law_part"]
theorem sc__law_written : FnScope N__law_written ["_law_yard_here"] (defScope s__law_written) := ⟨rfl, rfl, rfl, by decide +kernel, rfl, by decide +kernel, by decide +kernel⟩
abbrev s__law_cell_at : Stmt := topS 21
abbrev N__law_cell_at : List Str := ["_law_script", "_law_k"]
theorem sc__law_cell_at : FnScope N__law_cell_at ["_law_script", "_law_k"] (defScope s__law_cell_at) := ⟨rfl, rfl, rfl, by decide +kernel, rfl, by decide +kernel, by decide +kernel⟩
abbrev s__law_mixed : Stmt := topS 22
abbrev N__law_mixed : List Str := ["_law_script", "_law_k", "_law_drawn_here"]
theorem sc__law_mixed : FnScope N__law_mixed ["_law_script", "_law_k"] (defScope s__law_mixed) := ⟨rfl, rfl, rfl, by decide +kernel, rfl, by decide +kernel, by decide +kernel⟩
abbrev s_number_of : Stmt := topS 18
abbrev N_number_of : List Str := ["word"]
theorem sc_number_of : FnScope N_number_of ["word"] (defScope s_number_of) := ⟨rfl, rfl, rfl, by decide +kernel, rfl, by decide +kernel, by decide +kernel⟩
abbrev s_is_number : Stmt := topS 10
abbrev N_is_number : List Str := ["thing", "low", "high"]
theorem sc_is_number : FnScope N_is_number ["thing", "low", "high"] (defScope s_is_number) := ⟨rfl, rfl, rfl, by decide +kernel, rfl, by decide +kernel, by decide +kernel⟩
abbrev s_come_to : Stmt := topS 12
abbrev N_come_to : List Str := ["links", "found", "more", "one", "other", "many"]
theorem sc_come_to : FnScope N_come_to ["links"] (defScope s_come_to) := ⟨rfl, rfl, rfl, by decide +kernel, rfl, by decide +kernel, by decide +kernel⟩
abbrev s_is_link : Stmt := topS 11
abbrev N_is_link : List Str := ["thing", "count"]
theorem sc_is_link : FnScope N_is_link ["thing", "count"] (defScope s_is_link) := ⟨rfl, rfl, rfl, by decide +kernel, rfl, by decide +kernel, by decide +kernel⟩
abbrev s_is_yard : Stmt := topS 13
abbrev N_is_yard : List Str := ["thing", "count", "links", "one", "other", "link"]
theorem sc_is_yard : FnScope N_is_yard ["thing"] (defScope s_is_yard) := ⟨rfl, rfl, rfl, by decide +kernel, rfl, by decide +kernel, by decide +kernel⟩
abbrev s_yard_words : Stmt := topS 15
abbrev N_yard_words : List Str := ["yard", "words", "link", "part"]
theorem sc_yard_words : FnScope N_yard_words ["yard"] (defScope s_yard_words) := ⟨rfl, rfl, rfl, by decide +kernel, rfl, by decide +kernel, by decide +kernel⟩
abbrev s_read : Stmt := topS 19
abbrev N_read : List Str := ["text", "words", "links", "at", "found", "word"]
theorem sc_read : FnScope N_read ["text"] (defScope s_read) := ⟨rfl, rfl, rfl, by decide +kernel, rfl, by decide +kernel, by decide +kernel⟩
abbrev s__law_found : Stmt := topS 31
abbrev N__law_found : List Str := ["_law_text", "_law_found_here", "e", "_law_some", "_law_good"]
theorem sc__law_found : FnScope N__law_found ["_law_text"] (defScope s__law_found) := ⟨rfl, rfl, rfl, by decide +kernel, rfl, by decide +kernel, by decide +kernel⟩
abbrev s__law_changed : Stmt := topS 30
abbrev N__law_changed : List Str := ["_law_text", "_law_number_here", "_law_words", "_law_at", "_law_place", "_law_kind", "_law_sign", "_law_swapped", "_law_some"]
theorem sc__law_changed : FnScope N__law_changed ["_law_text", "_law_number_here"] (defScope s__law_changed) := ⟨rfl, rfl, rfl, by decide +kernel, rfl, by decide +kernel, by decide +kernel⟩
abbrev s__law_number : Stmt := topS 26
abbrev N__law_number : List Str := ["_law_thing", "_law_low", "_law_high"]
theorem sc__law_number : FnScope N__law_number ["_law_thing", "_law_low", "_law_high"] (defScope s__law_number) := ⟨rfl, rfl, rfl, by decide +kernel, rfl, by decide +kernel, by decide +kernel⟩
abbrev s__law_is_link : Stmt := topS 27
abbrev N__law_is_link : List Str := ["_law_thing", "_law_count"]
theorem sc__law_is_link : FnScope N__law_is_link ["_law_thing", "_law_count"] (defScope s__law_is_link) := ⟨rfl, rfl, rfl, by decide +kernel, rfl, by decide +kernel, by decide +kernel⟩
abbrev s__law_is_yard : Stmt := topS 28
abbrev N__law_is_yard : List Str := ["_law_thing", "_law_pairs", "_law_k", "_law_met", "_law_low", "_law_high", "_law_link"]
theorem sc__law_is_yard : FnScope N__law_is_yard ["_law_thing"] (defScope s__law_is_yard) := ⟨rfl, rfl, rfl, by decide +kernel, rfl, by decide +kernel, by decide +kernel⟩
abbrev s_law : Stmt := topS 32
abbrev N_law : List Str := ["_law_script", "_law_yard_here", "_law_first", "_law_number_here", "_law_text", "_law_k", "_law_found_here"]
theorem sc_law : FnScope N_law ["_law_script"] (defScope s_law) := ⟨rfl, rfl, rfl, by decide +kernel, rfl, by decide +kernel, by decide +kernel⟩
structure Bt (K : PySem.W.Frag) (cl : Str → Value) (mg : Str → Option Value) : Prop where
  r_NoText : ∃ C, XR K mg "NoText" C ∧ cl "NoText" = .ref C
  s_NoText : ∃ C A1 A2 A3 A4 S, mg "NoText" = some (.ref C) ∧ cl "NoText" = .ref C ∧ PySem.W.exmOne K (.ref C) (.ref C) = some true ∧ ExcC K C ∧ XS K C A1 A2 A3 A4 S ∧ mg "NoYard" = some (.ref A1) ∧ mg "NoTumble" = some (.ref A2) ∧ mg "NoRest" = some (.ref A3) ∧ mg "NotLasting" = some (.ref A4) ∧ mg "SandError" = some (.ref S)
  h_NoText_NoText : ∃ C H, mg "NoText" = some (.ref H) ∧ cl "NoText" = .ref C ∧ PySem.W.exmOne K (.ref C) (.ref H) = some true
  ValueError : mg "ValueError" = none
  all : mg "all" = none
  any : mg "any" = none
  bool : mg "bool" = none
  int : mg "int" = none
  isinstance : mg "isinstance" = none
  len : mg "len" = none
  max : mg "max" = none
  min : mg "min" = none
  range : mg "range" = none
  sorted : mg "sorted" = none
  str : mg "str" = none
  tuple : mg "tuple" = none
  zip : mg "zip" = none
  c_FIGURES : ∃ u, mg "FIGURES" = some u ∧ RelV (.str "0123456789") u
  c_LINKS : ∃ u, mg "LINKS" = some u ∧ RelV (.int 4) u
  c_PLACES : ∃ u, mg "PLACES" = some u ∧ RelV (.int 5) u
section
variable {P : Program} {w : World} {K : PySem.W.Frag} {mg : Str → Option Value} {base : Heap} {cl : Str → Value}
theorem rd__law_drawn (T : Bt K cl mg)  {f : Addr} {cdv : Value} {A : Around} {outer : List Env} {s : Shared} {H : Hp} {E : XK} (hr : Room 0 (A.deeper (envOfC "_law_drawn" (defScope s__law_drawn) s.heap.objs.size f cdv))) :
    ∃ t, PSs (cxOf CX0 P w K mg base N__law_drawn "_law_drawn" (defScope s__law_drawn) f cdv A outer s H E).nox (defBody s__law_drawn) t ∧ RdS K cl E0 t Dg.b_L_drawn := by
  have sc := sc__law_drawn
  exact ⟨_, (pss_cons (ps_set (i := 2) sc.nd rfl (.inl rfl) (pe_op op_modX (pe_op op_mulX (pe_op op_addX (pe_op op_addX (pv 0) (pe_op op_mulX pe_int (pv 1))) pe_int) pe_int) pe_int))
      (pss_one (ps_ret (pe_op op_modX (pe_op op_addX (pe_op op_addX (pe_op op_mulX (pv 2) (pv 2)) (pe_op op_mulX pe_int (pv 2))) (pv 1)) pe_int)))),
      (rds_seq (rds_asg (rd_op (Rd.w (rd_op (Rd.w (rd_op (Rd.w (rd_op (rdw_var 0) (Rd.w (rd_op (Rd.w (rd_int 104729)) (rdw_var 1))))) (Rd.w (rd_int 17)))) (Rd.w (rd_int 69621)))) (Rd.w (rd_int 2147483647))) (rdg_name 2))
      (rds_ret (rd_op (Rd.w (rd_op (Rd.w (rd_op (Rd.w (rd_op (rdw_var 2) (rdw_var 2))) (Rd.w (rd_op (Rd.w (rd_int 3)) (rdw_var 2))))) (rdw_var 1))) (Rd.w (rd_int 2147483629)))))⟩
theorem fk__law_drawn {f : Addr} {fd : FuncData} (F : Fun K "_law_drawn" "_law_drawn" s__law_drawn f fd) (T : Bt K cl mg)  : FnOk P w K mg base CX0 1 f fd ["_law_number_here", "_law_k"] (spF K cl 2 Dg.L_drawn) := by
  have h := fn_ok (P := P) (w := w) (mg := mg) (base := base) (cl := cl) (k := 0) (n := 2) (b := Dg.b_L_drawn) F sc__law_drawn rfl (fun cdv A outer s H E hr => rd__law_drawn T  hr)
  exact h
theorem ok__law_drawn (D : Df K mg "_law_drawn" s__law_drawn) (T : Bt K cl mg)  : Cal P w K mg base cl CX0 "_law_drawn" 1 2 Dg.L_drawn := by
  obtain ⟨f, fd, F, gl⟩ := D
  exact ⟨f, fd, _, fk__law_drawn F T , gl, F.kp, F.binds (ps := ["_law_number_here", "_law_k"]) fun _ _ _ _ _ _ us hl => match us, hl with | [_, _], _ => rfl⟩
theorem rd__law_yard (T : Bt K cl mg) (c__law_drawn : Cal P w K mg base cl CX0 "_law_drawn" 1 2 Dg.L_drawn) {f : Addr} {cdv : Value} {A : Around} {outer : List Env} {s : Shared} {H : Hp} {E : XK} (hr : Room 1 (A.deeper (envOfC "_law_yard" (defScope s__law_yard) s.heap.objs.size f cdv))) :
    ∃ t, PSs (cxOf CX0 P w K mg base N__law_yard "_law_yard" (defScope s__law_yard) f cdv A outer s H E).nox (defBody s__law_yard) t ∧ RdS K cl E0 t Dg.b_L_yard := by
  obtain ⟨f__law_drawn, d__law_drawn, p__law_drawn, c__law_drawn_⟩ := c__law_drawn
  have c__law_drawn := c__law_drawn_
  have sc := sc__law_yard
  exact ⟨_, (pss_cons (ps_set (i := 3) sc.nd rfl (.inl rfl) (pe_op op_addX pe_int (pe_op op_modX (pv 0) (pv 1))))
      (pss_cons (ps_set (i := 4) sc.nd rfl (.inl rfl) pe_dnewT)
      (pss_cons (ps_for PassesOwn.never rfl (pi_range2 (by rfl) T.range (pa_cons pe_int (pa_cons (pe_op op_addX (pv 3) pe_int) pa_nil))) (pg_name (i := 5) sc.nd rfl (by first | exact Or.inl rfl | exact Or.inr rfl)) (pss_one (ps_dput (hu_of hr) (pv 4) (pe_tup (pa_cons (pe_op op_modX (pe_call c__law_drawn.ok (hr.mono (by decide)) rfl c__law_drawn.gl c__law_drawn.kp c__law_drawn.bi .nil pass0 (pa_cons (pv 0) (pa_cons (pv 5) pa_nil))) (pv 5)) (pa_cons (pv 5) pa_nil))) (pe_op op_addX pe_int (pe_op op_modX (pe_call c__law_drawn.ok (hr.mono (by decide)) rfl c__law_drawn.gl c__law_drawn.kp c__law_drawn.bi .nil pass0 (pa_cons (pv 0) (pa_cons (pe_op op_addX pe_int (pv 5)) pa_nil))) (pv 2))) rfl)))
      (pss_cons (ps_for PassesOwn.never rfl (pi_range1 (by rfl) T.range (pa_cons (pe_op op_modX (pe_op op_fdivX (pv 0) pe_int) pe_int) pa_nil)) (pg_name (i := 6) sc.nd rfl (by first | exact Or.inl rfl | exact Or.inr rfl)) (pss_cons (ps_set (i := 7) sc.nd rfl (.inl rfl) (pe_op op_modX (pe_call c__law_drawn.ok (hr.mono (by decide)) rfl c__law_drawn.gl c__law_drawn.kp c__law_drawn.bi .nil pass0 (pa_cons (pv 0) (pa_cons (pe_op op_addX pe_int (pv 6)) pa_nil))) (pe_op op_addX (pv 3) pe_int)))
      (pss_cons (ps_set (i := 8) sc.nd rfl (.inl rfl) (pe_op op_modX (pe_call c__law_drawn.ok (hr.mono (by decide)) rfl c__law_drawn.gl c__law_drawn.kp c__law_drawn.bi .nil pass0 (pa_cons (pv 0) (pa_cons (pe_op op_addX pe_int (pv 6)) pa_nil))) (pe_op op_addX (pv 3) pe_int)))
      (pss_one (ps_if (pt_cmpR (op_ltX hr.units) (pv 7) (pv 8) (nomark _)) (pss_one (ps_dput (hu_of hr) (pv 4) (pe_tup (pa_cons (pv 7) (pa_cons (pv 8) pa_nil))) (pe_op op_addX pe_int (pe_op op_modX (pe_call c__law_drawn.ok (hr.mono (by decide)) rfl c__law_drawn.gl c__law_drawn.kp c__law_drawn.bi .nil pass0 (pa_cons (pv 0) (pa_cons (pe_op op_addX pe_int (pv 6)) pa_nil))) (pv 2))) rfl)) pss_nil)))))
      (pss_cons (ps_set (i := 9) sc.nd rfl (.inl rfl) (pe_lst (pa_cons pe_int pa_nil)))
      (pss_cons (ps_for PassesOwn.never rfl (pi_range2 (by rfl) T.range (pa_cons pe_int (pa_cons (pe_op op_addX (pv 3) pe_int) pa_nil))) (pg_name (i := 5) sc.nd rfl (by first | exact Or.inl rfl | exact Or.inr rfl)) (pss_cons (ps_set (i := 10) sc.nd rfl (.inl rfl) (pe_op op_addX pe_int (pe_op op_modX (pe_call c__law_drawn.ok (hr.mono (by decide)) rfl c__law_drawn.gl c__law_drawn.kp c__law_drawn.bi .nil pass0 (pa_cons (pv 0) (pa_cons (pe_op op_addX pe_int (pv 5)) pa_nil))) (pv 5))))
      (pss_one (ps_set (i := 9) sc.nd rfl (.inl rfl) (pe_op op_addX (pe_op op_addX (pe_slice sl_X (pv 9) po_none (po_some (pv 10))) (pe_lst (pa_cons (pv 5) pa_nil))) (pe_slice sl_X (pv 9) (po_some (pv 10)) po_none))))))
      (pss_cons (ps_set (i := 11) sc.nd rfl (.inl rfl) (pe_lst pa_nil))
      (pss_cons (ps_lock (ps_for PassesOwn.never rfl (pi_keys (pv 4)) (pg_tup (n := 2) rfl (pgs_cons (pg_name (i := 7) sc.nd rfl (by first | exact Or.inl rfl | exact Or.inr rfl)) (pgs_cons (pg_name (i := 8) sc.nd rfl (by first | exact Or.inl rfl | exact Or.inr rfl)) pgs_nil))) (pss_cons (ps_set (i := 12) sc.nd rfl (.inl rfl) (pe_ix ix_X (pv 9) (pv 7) (fun _ _ => rfl)))
      (pss_cons (ps_set (i := 13) sc.nd rfl (.inl rfl) (pe_ix ix_X (pv 9) (pv 8) (fun _ _ => rfl)))
      (pss_one (ps_expr (pe_bm PySem.F.plainAttrs_list PySem.F.slot_list_append PySem.F.type_list_append mt_append (pv 11) (pa_cons (pe_tup (pa_cons (pe_callB (cr_min2X rfl) (by rfl) T.min (by decide +kernel) (pa_cons (pv 12) (pa_cons (pv 13) pa_nil))) (pa_cons (pe_callB (cr_max2X rfl) (by rfl) T.max (by decide +kernel) (pa_cons (pv 12) (pa_cons (pv 13) pa_nil))) (pa_cons (pe_dget (hu_of hr) (pv 4) (pe_tup (pa_cons (pv 7) (pa_cons (pv 8) pa_nil))) (fun _ _ => rfl)) pa_nil)))) pa_nil))))))))
      (pss_one (ps_ret (pe_tup (pa_cons (pv 3) (pa_cons (pe_callTy cr_tupX (by rfl) T.tuple (by decide +kernel) (pa_cons (pe_callB (cr_sortX hr.units) (by rfl) T.sorted (by decide +kernel) (pa_cons (pv 11) pa_nil)) pa_nil)) pa_nil))))))))))))),
      (rds_seq (rds_asg (rd_op (Rd.w (rd_int 1)) (Rd.w (rd_op (rdw_var 0) (rdw_var 1)))) (rdg_name 3))
      (rds_seq (rds_dictNew 4)
      (rds_seq (rds_for (rdi_rng2 (Rd.w (rd_int 1)) (Rd.w (rd_op (rdw_var 3) (Rd.w (rd_int 1))))) (rdg_name 5) (rds_dictSet 4 (Rd.w (rd_op (Rd.w (rd_call0 (rda_cons (rd_var 0) (rda_cons (rd_var 5) rda_nil)) (AL.cons (AL.cons AL.nil)).len)) (rdw_var 5))) (rdw_var 5) (rd_op (Rd.w (rd_int 1)) (Rd.w (rd_op (Rd.w (rd_call0 (rda_cons (rd_var 0) (rda_cons (rd_op (Rd.w (rd_int 10)) (rdw_var 5)) rda_nil)) (AL.cons (AL.cons AL.nil)).len)) (rdw_var 2))))))
      (rds_seq (rds_for (rdi_rng1 (Rd.w (rd_op (Rd.w (rd_op (rdw_var 0) (Rd.w (rd_int 7)))) (Rd.w (rd_int 4))))) (rdg_name 6) (rds_seq (rds_asg (rd_op (Rd.w (rd_call0 (rda_cons (rd_var 0) (rda_cons (rd_op (Rd.w (rd_int 20)) (rdw_var 6)) rda_nil)) (AL.cons (AL.cons AL.nil)).len)) (Rd.w (rd_op (rdw_var 3) (Rd.w (rd_int 1))))) (rdg_name 7))
      (rds_seq (rds_asg (rd_op (Rd.w (rd_call0 (rda_cons (rd_var 0) (rda_cons (rd_op (Rd.w (rd_int 30)) (rdw_var 6)) rda_nil)) (AL.cons (AL.cons AL.nil)).len)) (Rd.w (rd_op (rdw_var 3) (Rd.w (rd_int 1))))) (rdg_name 8))
      (rds_if (rdt_test (Rd.w (rd_op (rdw_var 7) (rdw_var 8)))) (rds_dictSet 4 (rdw_var 7) (rdw_var 8) (rd_op (Rd.w (rd_int 1)) (Rd.w (rd_op (Rd.w (rd_call0 (rda_cons (rd_var 0) (rda_cons (rd_op (Rd.w (rd_int 40)) (rdw_var 6)) rda_nil)) (AL.cons (AL.cons AL.nil)).len)) (rdw_var 2))))) rds_next))))
      (rds_seq (rds_asg (RdN.d (rdn_lst (rda_cons (rd_int 0) rda_nil))) (rdg_name 9))
      (rds_seq (rds_for (rdi_rng2 (Rd.w (rd_int 1)) (Rd.w (rd_op (rdw_var 3) (Rd.w (rd_int 1))))) (rdg_name 5) (rds_seq (rds_asg (rd_op (Rd.w (rd_int 1)) (Rd.w (rd_op (Rd.w (rd_call0 (rda_cons (rd_var 0) (rda_cons (rd_op (Rd.w (rd_int 60)) (rdw_var 5)) rda_nil)) (AL.cons (AL.cons AL.nil)).len)) (rdw_var 5)))) (rdg_name 10))
      (rds_asg (rd_op (Rd.w (rd_op (Rd.w (rd_cut (rdw_var 9) rdo_no (rdo_int (rdw_var 10)))) (Rd.w (RdN.d (rdn_lst (rda_cons (rd_var 5) rda_nil)))))) (Rd.w (rd_cut (rdw_var 9) (rdo_int (rdw_var 10)) rdo_no))) (rdg_name 9))))
      (rds_seq (rds_own 11 (rdn_lst rda_nil))
      (rds_seq (rds_forKeys 4 (rdg_tup (rdgs_cons 7 (rdgs_cons 8 rdgs_nil))) (rds_seq (rds_asg (rd_op (rdw_var 9) (rdw_var 7)) (rdg_name 12))
      (rds_seq (rds_asg (rd_op (rdw_var 9) (rdw_var 8)) (rdg_name 13))
      (rds_app 11 (rd_tup (rda_cons (rd_b2 (rdw_var 12) (rdw_var 13)) (rda_cons (rd_b2 (rdw_var 12) (rdw_var 13)) (rda_cons (rd_dictGet 4 (rdw_var 7) (rdw_var 8)) rda_nil))))))))
      (rds_ret (rd_tup (rda_cons (rd_var 3) (rda_cons (rd_b1 (Rd.w (RdN.d (rdn_b1 sortD_list (rdw_var 11))))) rda_nil))))))))))))⟩
theorem fk__law_yard {f : Addr} {fd : FuncData} (F : Fun K "_law_yard" "_law_yard" s__law_yard f fd) (T : Bt K cl mg) (c__law_drawn : Cal P w K mg base cl CX0 "_law_drawn" 1 2 Dg.L_drawn) : FnOk P w K mg base CX0 2 f fd ["_law_number_here", "_law_most", "_law_wide"] (spF K cl 3 Dg.L_yard) := by
  have h := fn_ok (P := P) (w := w) (mg := mg) (base := base) (cl := cl) (k := 1) (n := 3) (b := Dg.b_L_yard) F sc__law_yard rfl (fun cdv A outer s H E hr => rd__law_yard T c__law_drawn hr)
  exact h
theorem ok__law_yard (D : Df K mg "_law_yard" s__law_yard) (T : Bt K cl mg) (c__law_drawn : Cal P w K mg base cl CX0 "_law_drawn" 1 2 Dg.L_drawn) : Cal P w K mg base cl CX0 "_law_yard" 2 3 Dg.L_yard := by
  obtain ⟨f, fd, F, gl⟩ := D
  exact ⟨f, fd, _, fk__law_yard F T c__law_drawn, gl, F.kp, F.binds (ps := ["_law_number_here", "_law_most", "_law_wide"]) fun _ _ _ _ _ _ us hl => match us, hl with | [_, _, _], _ => rfl⟩
theorem rd__law_written (T : Bt K cl mg)  {f : Addr} {cdv : Value} {A : Around} {outer : List Env} {s : Shared} {H : Hp} {E : XK} (hr : Room 0 (A.deeper (envOfC "_law_written" (defScope s__law_written) s.heap.objs.size f cdv))) :
    ∃ t, PSs (cxOf CX0 P w K mg base N__law_written "_law_written" (defScope s__law_written) f cdv A outer s H E).nox (defBody s__law_written) t ∧ RdS K cl E0 t Dg.b_L_written := by
  have sc := sc__law_written
  exact ⟨_, (pss_cons (ps_set (i := 1) sc.nd rfl (.inl rfl) (pe_op op_addX pe_str (pe_callTy cr_strX (by rfl) T.str (by decide +kernel) (pa_cons (pe_ix ix_X (pv 0) pe_int (fun _ _ => rfl)) pa_nil))))
      (pss_cons (ps_for PassesOwn.never rfl (pi_seq (pe_ix ix_X (pv 0) pe_int (fun _ _ => rfl))) (pg_name (i := 2) sc.nd rfl (by first | exact Or.inl rfl | exact Or.inr rfl)) (pss_cons (ps_set (i := 1) sc.nd rfl (.inl rfl) (pe_op op_addX (pv 1) pe_str))
      (pss_one (ps_for PassesOwn.never rfl (pi_seq (pv 2)) (pg_name (i := 3) sc.nd rfl (by first | exact Or.inl rfl | exact Or.inr rfl)) (pss_one (ps_set (i := 1) sc.nd rfl (.inl rfl) (pe_op op_addX (pe_op op_addX (pv 1) pe_str) (pe_callTy cr_strX (by rfl) T.str (by decide +kernel) (pa_cons (pv 3) pa_nil)))))))))
      (pss_one (ps_ret (pv 1))))),
      (rds_seq (rds_asg (rd_op (Rd.w (rd_str "yard ")) (Rd.w (rd_b1 (Rd.w (rd_op (rdw_var 0) (Rd.w (rd_int 0))))))) (rdg_name 1))
      (rds_seq (rds_for (rdi_seq (rd_op (rdw_var 0) (Rd.w (rd_int 1)))) (rdg_name 2) (rds_seq (rds_asg (rd_op (rdw_var 1) (Rd.w (rd_str " link"))) (rdg_name 1))
      (rds_for (rdi_seq (rd_var 2)) (rdg_name 3) (rds_asg (rd_op (Rd.w (rd_op (rdw_var 1) (Rd.w (rd_str " ")))) (Rd.w (rd_b1 (rdw_var 3)))) (rdg_name 1)))))
      (rds_ret (rd_var 1))))⟩
theorem fk__law_written {f : Addr} {fd : FuncData} (F : Fun K "_law_written" "_law_written" s__law_written f fd) (T : Bt K cl mg)  : FnOk P w K mg base CX0 1 f fd ["_law_yard_here"] (spF K cl 1 Dg.L_written) := by
  have h := fn_ok (P := P) (w := w) (mg := mg) (base := base) (cl := cl) (k := 0) (n := 1) (b := Dg.b_L_written) F sc__law_written rfl (fun cdv A outer s H E hr => rd__law_written T  hr)
  exact h
theorem ok__law_written (D : Df K mg "_law_written" s__law_written) (T : Bt K cl mg)  : Cal P w K mg base cl CX0 "_law_written" 1 1 Dg.L_written := by
  obtain ⟨f, fd, F, gl⟩ := D
  exact ⟨f, fd, _, fk__law_written F T , gl, F.kp, F.binds (ps := ["_law_yard_here"]) fun _ _ _ _ _ _ us hl => match us, hl with | [_], _ => rfl⟩
theorem rd__law_cell_at (T : Bt K cl mg)  {f : Addr} {cdv : Value} {A : Around} {outer : List Env} {s : Shared} {H : Hp} {E : XK} (hr : Room 0 (A.deeper (envOfC "_law_cell_at" (defScope s__law_cell_at) s.heap.objs.size f cdv))) :
    ∃ t, PSs (cxOf CX0 P w K mg base N__law_cell_at "_law_cell_at" (defScope s__law_cell_at) f cdv A outer s H E).nox (defBody s__law_cell_at) t ∧ RdS K cl E0 t Dg.b_L_cell_at := by
  have sc := sc__law_cell_at
  exact ⟨_, (pss_cons (ps_if (pt_cmpR (op_ltX hr.units) (pv 1) (pe_callB cr_lenX (by rfl) T.len (by decide +kernel) (pa_cons (pv 0) pa_nil)) (nomark _)) (pss_one (ps_ret (pe_ix ix_X (pv 0) (pv 1) (fun _ _ => rfl)))) pss_nil)
      (pss_one (ps_ret pe_int))),
      (rds_seq (rds_if (rdt_test (Rd.w (rd_op (rdw_var 1) (Rd.w (rd_b1 (rdw_var 0)))))) (rds_ret (rd_op (rdw_var 0) (rdw_var 1))) rds_next)
      (rds_ret (rd_int 0)))⟩
theorem fk__law_cell_at {f : Addr} {fd : FuncData} (F : Fun K "_law_cell_at" "_law_cell_at" s__law_cell_at f fd) (T : Bt K cl mg)  : FnOk P w K mg base CX0 1 f fd ["_law_script", "_law_k"] (spF K cl 2 Dg.L_cell_at) := by
  have h := fn_ok (P := P) (w := w) (mg := mg) (base := base) (cl := cl) (k := 0) (n := 2) (b := Dg.b_L_cell_at) F sc__law_cell_at rfl (fun cdv A outer s H E hr => rd__law_cell_at T  hr)
  exact h
theorem ok__law_cell_at (D : Df K mg "_law_cell_at" s__law_cell_at) (T : Bt K cl mg)  : Cal P w K mg base cl CX0 "_law_cell_at" 1 2 Dg.L_cell_at := by
  obtain ⟨f, fd, F, gl⟩ := D
  exact ⟨f, fd, _, fk__law_cell_at F T , gl, F.kp, F.binds (ps := ["_law_script", "_law_k"]) fun _ _ _ _ _ _ us hl => match us, hl with | [_, _], _ => rfl⟩
theorem rd__law_mixed (T : Bt K cl mg) (c__law_cell_at : Cal P w K mg base cl CX0 "_law_cell_at" 1 2 Dg.L_cell_at) {f : Addr} {cdv : Value} {A : Around} {outer : List Env} {s : Shared} {H : Hp} {E : XK} (hr : Room 1 (A.deeper (envOfC "_law_mixed" (defScope s__law_mixed) s.heap.objs.size f cdv))) :
    ∃ t, PSs (cxOf CX0 P w K mg base N__law_mixed "_law_mixed" (defScope s__law_mixed) f cdv A outer s H E).nox (defBody s__law_mixed) t ∧ RdS K cl E0 t Dg.b_L_mixed := by
  obtain ⟨f__law_cell_at, d__law_cell_at, p__law_cell_at, c__law_cell_at_⟩ := c__law_cell_at
  have c__law_cell_at := c__law_cell_at_
  have sc := sc__law_mixed
  exact ⟨_, (pss_cons (ps_set (i := 2) sc.nd rfl (.inl rfl) (pe_op op_modX (pe_op op_mulX (pe_op op_addX (pe_op op_addX (pe_call c__law_cell_at.ok (hr.mono (by decide)) rfl c__law_cell_at.gl c__law_cell_at.kp c__law_cell_at.bi .nil pass0 (pa_cons (pv 0) (pa_cons (pv 1) pa_nil))) (pe_op op_mulX pe_int (pv 1))) pe_int) pe_int) pe_int))
      (pss_one (ps_ret (pe_op op_modX (pe_op op_addX (pe_op op_addX (pe_op op_mulX (pv 2) (pv 2)) (pe_op op_mulX pe_int (pv 2))) (pv 1)) pe_int)))),
      (rds_seq (rds_asg (rd_op (Rd.w (rd_op (Rd.w (rd_op (Rd.w (rd_op (Rd.w (rd_call0 (rda_cons (rd_var 0) (rda_cons (rd_var 1) rda_nil)) (AL.cons (AL.cons AL.nil)).len)) (Rd.w (rd_op (Rd.w (rd_int 7919)) (rdw_var 1))))) (Rd.w (rd_int 1)))) (Rd.w (rd_int 48271)))) (Rd.w (rd_int 2147483647))) (rdg_name 2))
      (rds_ret (rd_op (Rd.w (rd_op (Rd.w (rd_op (Rd.w (rd_op (rdw_var 2) (rdw_var 2))) (Rd.w (rd_op (Rd.w (rd_int 7)) (rdw_var 2))))) (rdw_var 1))) (Rd.w (rd_int 2147483629)))))⟩
theorem fk__law_mixed {f : Addr} {fd : FuncData} (F : Fun K "_law_mixed" "_law_mixed" s__law_mixed f fd) (T : Bt K cl mg) (c__law_cell_at : Cal P w K mg base cl CX0 "_law_cell_at" 1 2 Dg.L_cell_at) : FnOk P w K mg base CX0 2 f fd ["_law_script", "_law_k"] (spF K cl 2 Dg.L_mixed) := by
  have h := fn_ok (P := P) (w := w) (mg := mg) (base := base) (cl := cl) (k := 1) (n := 2) (b := Dg.b_L_mixed) F sc__law_mixed rfl (fun cdv A outer s H E hr => rd__law_mixed T c__law_cell_at hr)
  exact h
theorem ok__law_mixed (D : Df K mg "_law_mixed" s__law_mixed) (T : Bt K cl mg) (c__law_cell_at : Cal P w K mg base cl CX0 "_law_cell_at" 1 2 Dg.L_cell_at) : Cal P w K mg base cl CX0 "_law_mixed" 2 2 Dg.L_mixed := by
  obtain ⟨f, fd, F, gl⟩ := D
  exact ⟨f, fd, _, fk__law_mixed F T c__law_cell_at, gl, F.kp, F.binds (ps := ["_law_script", "_law_k"]) fun _ _ _ _ _ _ us hl => match us, hl with | [_, _], _ => rfl⟩
theorem rd_number_of (T : Bt K cl mg)  {f : Addr} {cdv : Value} {A : Around} {outer : List Env} {s : Shared} {H : Hp} {E : XK} (hr : Room 0 (A.deeper (envOfC "number_of" (defScope s_number_of) s.heap.objs.size f cdv))) :
    ∃ t, PSs (cxOf (L2N.CX P w) P w K mg base N_number_of "number_of" (defScope s_number_of) f cdv A outer s H E) (defBody s_number_of) t ∧ RdS K cl E t Dg.b_P_number_of := by
  obtain ⟨u_FIGURES, k1_FIGURES, k2_FIGURES⟩ := T.c_FIGURES
  obtain ⟨C_NoText, xr_NoText, hc_NoText⟩ := T.r_NoText
  have sc := sc_number_of
  exact ⟨_, (pss_cons (ps_if (PW.pt (pw_or (pt_cmpR (op_neX hr.units) (pe_callB cr_lenX (by rfl) T.len (by decide +kernel) (pa_cons (pv 0) pa_nil)) pe_int (nomark _)) (pw_or1 (pt_cmpR (op_notInX hr.units) (pv 0) (pe_glob (v := .str "0123456789") rfl k1_FIGURES k2_FIGURES) (by rfl))))) (pss_one (ps_raiseN rfl (L2N.takes_of rfl rfl rfl rfl) xr_NoText (by rfl))) pss_nil)
      (PSs.nox (pss_one (ps_ret (pe_callTy cr_intX (by rfl) T.int (by decide +kernel) (pa_cons (pv 0) pa_nil)))))),
      (rds_seq (rds_if (rdt_or (rdt_test (Rd.w (rd_op (Rd.w (rd_b1 (rdw_var 0))) (Rd.w (rd_int 1))))) (rdt_test (Rd.w (rd_op (rdw_var 0) (Rd.w (rd_str "0123456789")))))) (rds_raise hc_NoText) rds_next)
      (rds_ret (rd_b1 (rdw_var 0))))⟩
theorem fk_number_of {f : Addr} {fd : FuncData} (F : Fun K "number_of" "number_of" s_number_of f fd) (T : Bt K cl mg)  : FnOk P w K mg base (L2N.CX P w) 1 f fd ["word"] (spF K cl 1 Dg.P_number_of) := by
  have h := fn_okN (P := P) (w := w) (mg := mg) (base := base) (cl := cl) (k := 0) (n := 1) (b := Dg.b_P_number_of) F sc_number_of rfl (fun cdv A outer s H E hr => rd_number_of T  hr)
  exact h
theorem ok_number_of (D : Df K mg "number_of" s_number_of) (T : Bt K cl mg)  : Cal P w K mg base cl (L2N.CX P w) "number_of" 1 1 Dg.P_number_of := by
  obtain ⟨f, fd, F, gl⟩ := D
  exact ⟨f, fd, _, fk_number_of F T , gl, F.kp, F.binds (ps := ["word"]) fun _ _ _ _ _ _ us hl => match us, hl with | [_], _ => rfl⟩
theorem rd_is_number (T : Bt K cl mg)  {f : Addr} {cdv : Value} {A : Around} {outer : List Env} {s : Shared} {H : Hp} {E : XK} (hr : Room 0 (A.deeper (envOfC "is_number" (defScope s_is_number) s.heap.objs.size f cdv))) :
    ∃ t, PSs (cxOf CX0 P w K mg base N_is_number "is_number" (defScope s_is_number) f cdv A outer s H E).nox (defBody s_is_number) t ∧ RdS K cl E0 t Dg.b_P_is_number := by
  have sc := sc_is_number
  exact ⟨_, (pss_one (ps_ret (pe_and (pe_callB (cr_isiX 0 (by decide)) (by rfl) T.isinstance (by decide +kernel) (pa_cons (pv 0) (pa_cons (pe_bltn (v := .ty "int") (by rfl) T.int (by decide +kernel) rfl) pa_nil))) (pe_and (pe_not (pe_callB (cr_isiX 1 (by decide)) (by rfl) T.isinstance (by decide +kernel) (pa_cons (pv 0) (pa_cons (pe_bltn (v := .ty "bool") (by rfl) T.bool (by decide +kernel) rfl) pa_nil)))) (pe_one (pe_chain (op_leX hr.units) (op_leX hr.units) (pv 1) (pv 0) (pv 2))))))),
      (rds_ret (rd_and (Rd.w (rd_isi 0 (rdw_var 0))) (rd_and (Rd.w (rd_not (Rd.w (rd_isi 1 (rdw_var 0))))) (rd_chain (rdw_var 1) (rdw_var 0) (rdw_var 2)))))⟩
theorem fk_is_number {f : Addr} {fd : FuncData} (F : Fun K "is_number" "is_number" s_is_number f fd) (T : Bt K cl mg)  : FnOk P w K mg base CX0 1 f fd ["thing", "low", "high"] (spF K cl 3 Dg.P_is_number) := by
  have h := fn_ok (P := P) (w := w) (mg := mg) (base := base) (cl := cl) (k := 0) (n := 3) (b := Dg.b_P_is_number) F sc_is_number rfl (fun cdv A outer s H E hr => rd_is_number T  hr)
  exact h
theorem ok_is_number (D : Df K mg "is_number" s_is_number) (T : Bt K cl mg)  : Cal P w K mg base cl CX0 "is_number" 1 3 Dg.P_is_number := by
  obtain ⟨f, fd, F, gl⟩ := D
  exact ⟨f, fd, _, fk_is_number F T , gl, F.kp, F.binds (ps := ["thing", "low", "high"]) fun _ _ _ _ _ _ us hl => match us, hl with | [_, _, _], _ => rfl⟩
theorem rd_come_to (T : Bt K cl mg)  {f : Addr} {cdv : Value} {A : Around} {outer : List Env} {s : Shared} {H : Hp} {E : XK} (hr : Room 0 (A.deeper (envOfC "come_to" (defScope s_come_to) s.heap.objs.size f cdv))) :
    ∃ t, PSs (cxOf CX0 P w K mg base N_come_to "come_to" (defScope s_come_to) f cdv A outer s H E).nox (defBody s_come_to) t ∧ RdS K cl E0 t Dg.b_P_come_to := by
  have sc := sc_come_to
  exact ⟨_, (pss_cons (ps_set (i := 1) sc.nd rfl (.inl rfl) (pe_lst (pa_cons pe_int pa_nil)))
      (pss_cons (ps_set (i := 2) sc.nd rfl (.inl rfl) pe_bl)
      (pss_cons (ps_while PassesOwn.never (pt_val (pv 2)) (pss_cons (ps_set (i := 2) sc.nd rfl (.inl rfl) pe_bl)
      (pss_one (ps_for PassesOwn.never rfl (pi_seq (pv 0)) (pg_tup (n := 3) rfl (pgs_cons (pg_name (i := 3) sc.nd rfl (by first | exact Or.inl rfl | exact Or.inr rfl)) (pgs_cons (pg_name (i := 4) sc.nd rfl (by first | exact Or.inl rfl | exact Or.inr rfl)) (pgs_cons (pg_name (i := 5) sc.nd rfl (by first | exact Or.inl rfl | exact Or.inr rfl)) pgs_nil)))) (pss_one (ps_if (pt_cmpR (op_neX hr.units) (pe_cmpR (op_inX hr.units) (pv 3) (pv 1) (by rfl)) (pe_cmpR (op_inX hr.units) (pv 4) (pv 1) (by rfl)) (nomark _)) (pss_cons (ps_expr (pe_bm PySem.F.plainAttrs_list PySem.F.slot_list_append PySem.F.type_list_append mt_append (pv 1) (pa_cons (pe_op op_subX (pe_op op_addX (pv 3) (pv 4)) (pe_ix ix_X (pe_lst (pa_cons (pv 3) (pa_cons (pv 4) pa_nil))) (pe_callTy cr_intX (by rfl) T.int (by decide +kernel) (pa_cons (pe_cmpR (op_inX hr.units) (pv 4) (pv 1) (by rfl)) pa_nil)) (fun _ _ => rfl))) pa_nil)))
      (pss_one (ps_set (i := 2) sc.nd rfl (.inl rfl) pe_bl))) pss_nil))))))
      (pss_one (ps_ret (pv 1)))))),
      (rds_seq (rds_own 1 (rdn_lst (rda_cons (rd_int 0) rda_nil)))
      (rds_seq (rds_asg (rd_bl true) (rdg_name 2))
      (rds_seq (rds_while (rdt_val (rdw_var 2)) (rds_seq (rds_asg (rd_bl false) (rdg_name 2))
      (rds_for (rdi_seq (rd_var 0)) (rdg_tup (rdgs_cons 3 (rdgs_cons 4 (rdgs_cons 5 rdgs_nil)))) (rds_if (rdt_test (Rd.w (rd_op (Rd.w (rd_op (rdw_var 3) (rdw_var 1))) (Rd.w (rd_op (rdw_var 4) (rdw_var 1)))))) (rds_seq (rds_app 1 (rd_op (Rd.w (rd_op (rdw_var 3) (rdw_var 4))) (Rd.w (rd_op (Rd.w (RdN.d (rdn_lst (rda_cons (rd_var 3) (rda_cons (rd_var 4) rda_nil))))) (Rd.w (rd_b1 (Rd.w (rd_op (rdw_var 4) (rdw_var 1)))))))))
      (rds_asg (rd_bl true) (rdg_name 2))) rds_next))))
      (rds_retO 1))))⟩
theorem fk_come_to {f : Addr} {fd : FuncData} (F : Fun K "come_to" "come_to" s_come_to f fd) (T : Bt K cl mg)  : FnOk P w K mg base CX0 1 f fd ["links"] (spF K cl 1 Dg.P_come_to) := by
  have h := fn_ok (P := P) (w := w) (mg := mg) (base := base) (cl := cl) (k := 0) (n := 1) (b := Dg.b_P_come_to) F sc_come_to rfl (fun cdv A outer s H E hr => rd_come_to T  hr)
  exact h
theorem ok_come_to (D : Df K mg "come_to" s_come_to) (T : Bt K cl mg)  : Cal P w K mg base cl CX0 "come_to" 1 1 Dg.P_come_to := by
  obtain ⟨f, fd, F, gl⟩ := D
  exact ⟨f, fd, _, fk_come_to F T , gl, F.kp, F.binds (ps := ["links"]) fun _ _ _ _ _ _ us hl => match us, hl with | [_], _ => rfl⟩
theorem rd_is_link (T : Bt K cl mg) (c_is_number : Cal P w K mg base cl CX0 "is_number" 1 3 Dg.P_is_number) {f : Addr} {cdv : Value} {A : Around} {outer : List Env} {s : Shared} {H : Hp} {E : XK} (hr : Room 1 (A.deeper (envOfC "is_link" (defScope s_is_link) s.heap.objs.size f cdv))) :
    ∃ t, PSs (cxOf CX0 P w K mg base N_is_link "is_link" (defScope s_is_link) f cdv A outer s H E).nox (defBody s_is_link) t ∧ RdS K cl E0 t Dg.b_P_is_link := by
  obtain ⟨f_is_number, d_is_number, p_is_number, c_is_number_⟩ := c_is_number
  have c_is_number := c_is_number_
  obtain ⟨u_LINKS, k1_LINKS, k2_LINKS⟩ := T.c_LINKS
  have sc := sc_is_link
  exact ⟨_, (pss_cons (ps_if (PW.pt (pw_or (pt_not (pt_val (pe_callB (cr_isiX 2 (by decide)) (by rfl) T.isinstance (by decide +kernel) (pa_cons (pv 0) (pa_cons (pe_bltn (v := .ty "tuple") (by rfl) T.tuple (by decide +kernel) rfl) pa_nil))))) (pw_or1 (pt_cmpR (op_neX hr.units) (pe_callB cr_lenX (by rfl) T.len (by decide +kernel) (pa_cons (pv 0) pa_nil)) pe_int (nomark _))))) (pss_one (ps_ret pe_bl)) pss_nil)
      (pss_cons (ps_if (PW.pt (pw_or (pt_not (pt_val (pe_call c_is_number.ok (hr.mono (by decide)) rfl c_is_number.gl c_is_number.kp c_is_number.bi .nil pass0 (pa_cons (pe_ix ix_X (pv 0) pe_int (fun _ _ => rfl)) (pa_cons pe_int (pa_cons (pv 1) pa_nil)))))) (pw_or1 (pt_not (pt_val (pe_call c_is_number.ok (hr.mono (by decide)) rfl c_is_number.gl c_is_number.kp c_is_number.bi .nil pass0 (pa_cons (pe_ix ix_X (pv 0) pe_int (fun _ _ => rfl)) (pa_cons pe_int (pa_cons (pv 1) pa_nil))))))))) (pss_one (ps_ret pe_bl)) pss_nil)
      (pss_one (ps_ret (pe_and (pe_cmpR (op_ltX hr.units) (pe_ix ix_X (pv 0) pe_int (fun _ _ => rfl)) (pe_ix ix_X (pv 0) pe_int (fun _ _ => rfl)) (nomark _)) (pe_one (pe_call c_is_number.ok (hr.mono (by decide)) rfl c_is_number.gl c_is_number.kp c_is_number.bi .nil pass0 (pa_cons (pe_ix ix_X (pv 0) pe_int (fun _ _ => rfl)) (pa_cons pe_int (pa_cons (pe_glob (v := .int 4) rfl k1_LINKS k2_LINKS) pa_nil)))))))))),
      (rds_seq (rds_if (rdt_or (rdt_not (rdt_val (Rd.w (rd_isi 2 (rdw_var 0))))) (rdt_test (Rd.w (rd_op (Rd.w (rd_b1 (rdw_var 0))) (Rd.w (rd_int 3)))))) (rds_ret (rd_bl false)) rds_next)
      (rds_seq (rds_if (rdt_or (rdt_not (rdt_val (Rd.w (rd_call0 (rda_cons (rd_op (rdw_var 0) (Rd.w (rd_int 0))) (rda_cons (rd_int 0) (rda_cons (rd_var 1) rda_nil))) (AL.cons (AL.cons (AL.cons AL.nil))).len)))) (rdt_not (rdt_val (Rd.w (rd_call0 (rda_cons (rd_op (rdw_var 0) (Rd.w (rd_int 1))) (rda_cons (rd_int 0) (rda_cons (rd_var 1) rda_nil))) (AL.cons (AL.cons (AL.cons AL.nil))).len))))) (rds_ret (rd_bl false)) rds_next)
      (rds_ret (rd_and (Rd.w (rd_op (Rd.w (rd_op (rdw_var 0) (Rd.w (rd_int 0)))) (Rd.w (rd_op (rdw_var 0) (Rd.w (rd_int 1)))))) (rd_call0 (rda_cons (rd_op (rdw_var 0) (Rd.w (rd_int 2))) (rda_cons (rd_int 1) (rda_cons (rd_int 4) rda_nil))) (AL.cons (AL.cons (AL.cons AL.nil))).len)))))⟩
theorem fk_is_link {f : Addr} {fd : FuncData} (F : Fun K "is_link" "is_link" s_is_link f fd) (T : Bt K cl mg) (c_is_number : Cal P w K mg base cl CX0 "is_number" 1 3 Dg.P_is_number) : FnOk P w K mg base CX0 2 f fd ["thing", "count"] (spF K cl 2 Dg.P_is_link) := by
  have h := fn_ok (P := P) (w := w) (mg := mg) (base := base) (cl := cl) (k := 1) (n := 2) (b := Dg.b_P_is_link) F sc_is_link rfl (fun cdv A outer s H E hr => rd_is_link T c_is_number hr)
  exact h
theorem ok_is_link (D : Df K mg "is_link" s_is_link) (T : Bt K cl mg) (c_is_number : Cal P w K mg base cl CX0 "is_number" 1 3 Dg.P_is_number) : Cal P w K mg base cl CX0 "is_link" 2 2 Dg.P_is_link := by
  obtain ⟨f, fd, F, gl⟩ := D
  exact ⟨f, fd, _, fk_is_link F T c_is_number, gl, F.kp, F.binds (ps := ["thing", "count"]) fun _ _ _ _ _ _ us hl => match us, hl with | [_, _], _ => rfl⟩
theorem rd_is_yard (T : Bt K cl mg) (c_is_number : Cal P w K mg base cl CX0 "is_number" 1 3 Dg.P_is_number) (c_is_link : Cal P w K mg base cl CX0 "is_link" 2 2 Dg.P_is_link) (c_come_to : Cal P w K mg base cl CX0 "come_to" 1 1 Dg.P_come_to) {f : Addr} {cdv : Value} {A : Around} {outer : List Env} {s : Shared} {H : Hp} {E : XK} (hr : Room 2 (A.deeper (envOfC "is_yard" (defScope s_is_yard) s.heap.objs.size f cdv))) :
    ∃ t, PSs (cxOf CX0 P w K mg base N_is_yard "is_yard" (defScope s_is_yard) f cdv A outer s H E).nox (defBody s_is_yard) t ∧ RdS K cl E0 t Dg.b_P_is_yard := by
  obtain ⟨f_is_number, d_is_number, p_is_number, c_is_number_⟩ := c_is_number
  have c_is_number := c_is_number_
  obtain ⟨f_is_link, d_is_link, p_is_link, c_is_link_⟩ := c_is_link
  have c_is_link := c_is_link_
  obtain ⟨f_come_to, d_come_to, p_come_to, c_come_to_⟩ := c_come_to
  have c_come_to := c_come_to_
  obtain ⟨u_PLACES, k1_PLACES, k2_PLACES⟩ := T.c_PLACES
  have sc := sc_is_yard
  exact ⟨_, (pss_cons (ps_if (PW.pt (pw_or (pt_not (pt_val (pe_callB (cr_isiX 2 (by decide)) (by rfl) T.isinstance (by decide +kernel) (pa_cons (pv 0) (pa_cons (pe_bltn (v := .ty "tuple") (by rfl) T.tuple (by decide +kernel) rfl) pa_nil))))) (pw_or (pt_cmpR (op_neX hr.units) (pe_callB cr_lenX (by rfl) T.len (by decide +kernel) (pa_cons (pv 0) pa_nil)) pe_int (nomark _)) (pw_or1 (pt_not (pt_val (pe_call c_is_number.ok (hr.mono (by decide)) rfl c_is_number.gl c_is_number.kp c_is_number.bi .nil pass0 (pa_cons (pe_ix ix_X (pv 0) pe_int (fun _ _ => rfl)) (pa_cons pe_int (pa_cons (pe_glob (v := .int 5) rfl k1_PLACES k2_PLACES) pa_nil)))))))))) (pss_one (ps_ret pe_bl)) pss_nil)
      (pss_cons (ps_asg (pv 0) (pg_tup (n := 2) rfl (pgs_cons (pg_name (i := 1) sc.nd rfl (by first | exact Or.inl rfl | exact Or.inr rfl)) (pgs_cons (pg_name (i := 2) sc.nd rfl (by first | exact Or.inl rfl | exact Or.inr rfl)) pgs_nil))))
      (pss_cons (ps_if (PW.pt (pw_or (pt_not (pt_val (pe_callB (cr_isiX 2 (by decide)) (by rfl) T.isinstance (by decide +kernel) (pa_cons (pv 2) (pa_cons (pe_bltn (v := .ty "tuple") (by rfl) T.tuple (by decide +kernel) rfl) pa_nil))))) (pw_or1 (pt_not (pt_val (pe_callB (cr_allX rfl) (by rfl) T.all (by decide +kernel) (pa_cons (pe_lc (own := [("link", 5)]) rfl sc.nd (pi_seq (pv 2)) (blkOk_by (N := N_is_yard) (sc := defScope s_is_yard) (by decide +kernel)) (fun _ _ _ _ _ => (pg_name (i := 5) sc.nd rfl (by first | exact Or.inl rfl | exact Or.inr rfl))) (fun _ _ _ _ _ => pts_nil) (fun _ _ _ _ _ => (pe_call c_is_link.ok (hr.mono (by decide)) rfl c_is_link.gl c_is_link.kp c_is_link.bi .nil pass0 (pa_cons (pv 5) (pa_cons (pv 1) pa_nil))))) pa_nil))))))) (pss_one (ps_ret pe_bl)) pss_nil)
      (pss_cons (ps_if (pt_not (pt_val (pe_callB (cr_allX rfl) (by rfl) T.all (by decide +kernel) (pa_cons (pe_lc (own := [("one", 3), ("other", 4)]) rfl sc.nd (RZ.pi_zipA (by rfl) T.zip (pa_cons (pe_slice sl_X (pv 2) po_none (po_some (pe_un un_negX pe_int))) (pa_cons (pe_slice sl_X (pv 2) (po_some pe_int) po_none) pa_nil))) (blkOk_by (N := N_is_yard) (sc := defScope s_is_yard) (by decide +kernel)) (fun _ _ _ _ _ => (pg_tup (n := 2) rfl (pgs_cons (pg_name (i := 3) sc.nd rfl (by first | exact Or.inl rfl | exact Or.inr rfl)) (pgs_cons (pg_name (i := 4) sc.nd rfl (by first | exact Or.inl rfl | exact Or.inr rfl)) pgs_nil)))) (fun _ _ _ _ _ => pts_nil) (fun _ _ _ _ _ => (pe_cmpR (op_ltX hr.units) (pe_slice sl_X (pv 3) po_none (po_some pe_int)) (pe_slice sl_X (pv 4) po_none (po_some pe_int)) (nomark _)))) pa_nil)))) (pss_one (ps_ret pe_bl)) pss_nil)
      (pss_one (ps_ret (pe_cmpR (op_eqX hr.units) (pe_callB cr_lenX (by rfl) T.len (by decide +kernel) (pa_cons (pe_call c_come_to.ok (hr.mono (by decide)) rfl c_come_to.gl c_come_to.kp c_come_to.bi .nil pass0 (pa_cons (pv 2) pa_nil)) pa_nil)) (pe_op op_addX (pv 1) pe_int) (nomark _)))))))),
      (rds_seq (rds_if (rdt_or (rdt_not (rdt_val (Rd.w (rd_isi 2 (rdw_var 0))))) (rdt_or (rdt_test (Rd.w (rd_op (Rd.w (rd_b1 (rdw_var 0))) (Rd.w (rd_int 2))))) (rdt_not (rdt_val (Rd.w (rd_call0 (rda_cons (rd_op (rdw_var 0) (Rd.w (rd_int 0))) (rda_cons (rd_int 1) (rda_cons (rd_int 5) rda_nil))) (AL.cons (AL.cons (AL.cons AL.nil))).len)))))) (rds_ret (rd_bl false)) rds_next)
      (rds_seq (rds_asg (rd_var 0) (rdg_tup (rdgs_cons 1 (rdgs_cons 2 rdgs_nil))))
      (rds_seq (rds_if (rdt_or (rdt_not (rdt_val (Rd.w (rd_isi 2 (rdw_var 2))))) (rdt_not (rdt_val (Rd.w (rd_b1 (Rd.w (RdN.d (rdn_comp (E2 := E0) (rdi_seq (rd_var 2)) (rdg_name 5) (by decide) rdt_yes (rd_call0 (rda_cons (rd_var 5) (rda_cons (rd_var 1) rda_nil)) (AL.cons (AL.cons AL.nil)).len))))))))) (rds_ret (rd_bl false)) rds_next)
      (rds_seq (rds_if (rdt_not (rdt_val (Rd.w (rd_b1 (Rd.w (RdN.d (rdn_comp (E2 := E0) (rdi_zip (rd_cut (rdw_var 2) rdo_no (rdo_int (Rd.w (rd_un (Rd.w (rd_int 1)))))) (rd_cut (rdw_var 2) (rdo_int (Rd.w (rd_int 1))) rdo_no)) (rdg_tup (rdgs_cons 3 (rdgs_cons 4 rdgs_nil))) (by decide) rdt_yes (rd_op (Rd.w (rd_cut (rdw_var 3) rdo_no (rdo_int (Rd.w (rd_int 2))))) (Rd.w (rd_cut (rdw_var 4) rdo_no (rdo_int (Rd.w (rd_int 2))))))))))))) (rds_ret (rd_bl false)) rds_next)
      (rds_ret (rd_op (Rd.w (rd_b1 (Rd.w (rd_call0 (rda_cons (rd_var 2) rda_nil) (AL.cons AL.nil).len)))) (Rd.w (rd_op (rdw_var 1) (Rd.w (rd_int 1))))))))))⟩
theorem fk_is_yard {f : Addr} {fd : FuncData} (F : Fun K "is_yard" "is_yard" s_is_yard f fd) (T : Bt K cl mg) (c_is_number : Cal P w K mg base cl CX0 "is_number" 1 3 Dg.P_is_number) (c_is_link : Cal P w K mg base cl CX0 "is_link" 2 2 Dg.P_is_link) (c_come_to : Cal P w K mg base cl CX0 "come_to" 1 1 Dg.P_come_to) : FnOk P w K mg base CX0 3 f fd ["thing"] (spF K cl 1 Dg.P_is_yard) := by
  have h := fn_ok (P := P) (w := w) (mg := mg) (base := base) (cl := cl) (k := 2) (n := 1) (b := Dg.b_P_is_yard) F sc_is_yard rfl (fun cdv A outer s H E hr => rd_is_yard T c_is_number c_is_link c_come_to hr)
  exact h
theorem ok_is_yard (D : Df K mg "is_yard" s_is_yard) (T : Bt K cl mg) (c_is_number : Cal P w K mg base cl CX0 "is_number" 1 3 Dg.P_is_number) (c_is_link : Cal P w K mg base cl CX0 "is_link" 2 2 Dg.P_is_link) (c_come_to : Cal P w K mg base cl CX0 "come_to" 1 1 Dg.P_come_to) : Cal P w K mg base cl CX0 "is_yard" 3 1 Dg.P_is_yard := by
  obtain ⟨f, fd, F, gl⟩ := D
  exact ⟨f, fd, _, fk_is_yard F T c_is_number c_is_link c_come_to, gl, F.kp, F.binds (ps := ["thing"]) fun _ _ _ _ _ _ us hl => match us, hl with | [_], _ => rfl⟩
theorem rd_yard_words (T : Bt K cl mg)  {f : Addr} {cdv : Value} {A : Around} {outer : List Env} {s : Shared} {H : Hp} {E : XK} (hr : Room 0 (A.deeper (envOfC "yard_words" (defScope s_yard_words) s.heap.objs.size f cdv))) :
    ∃ t, PSs (cxOf CX0 P w K mg base N_yard_words "yard_words" (defScope s_yard_words) f cdv A outer s H E).nox (defBody s_yard_words) t ∧ RdS K cl E0 t Dg.b_P_yard_words := by
  have sc := sc_yard_words
  exact ⟨_, (pss_cons (ps_set (i := 1) sc.nd rfl (.inl rfl) (pe_lst (pa_cons pe_str (pa_cons (pe_callTy cr_strX (by rfl) T.str (by decide +kernel) (pa_cons (pe_ix ix_X (pv 0) pe_int (fun _ _ => rfl)) pa_nil)) pa_nil))))
      (pss_cons (ps_for PassesOwn.never rfl (pi_seq (pe_ix ix_X (pv 0) pe_int (fun _ _ => rfl))) (pg_name (i := 2) sc.nd rfl (by first | exact Or.inl rfl | exact Or.inr rfl)) (pss_one (ps_expr (pe_bm PySem.F.plainAttrs_list PySem.F.slot_list_extend PySem.F.type_list_extend mt_extend (pv 1) (pa_cons (pe_op op_catS (pe_lst (pa_cons pe_str pa_nil)) (pe_lc (own := [("part", 3)]) rfl sc.nd (pi_seq (pv 2)) (blkOk_by (N := N_yard_words) (sc := defScope s_yard_words) (by decide +kernel)) (fun _ _ _ _ _ => (pg_name (i := 3) sc.nd rfl (by first | exact Or.inl rfl | exact Or.inr rfl))) (fun _ _ _ _ _ => pts_nil) (fun _ _ _ _ _ => (pe_callTy cr_strX (by rfl) T.str (by decide +kernel) (pa_cons (pv 3) pa_nil))))) pa_nil)))))
      (pss_one (ps_ret (pv 1))))),
      (rds_seq (rds_own 1 (rdn_lst (rda_cons (rd_str "yard") (rda_cons (rd_b1 (Rd.w (rd_op (rdw_var 0) (Rd.w (rd_int 0))))) rda_nil))))
      (rds_seq (rds_for (rdi_seq (rd_op (rdw_var 0) (Rd.w (rd_int 1)))) (rdg_name 2) (rds_ext 1 (rdn_cat (Rd.w (RdN.d (rdn_lst (rda_cons (rd_str "link") rda_nil)))) (Rd.w (RdN.d (rdn_comp (E2 := E0) (rdi_seq (rd_var 2)) (rdg_name 3) (by decide) rdt_yes (rd_b1 (rdw_var 3))))))))
      (rds_retO 1)))⟩
theorem fk_yard_words {f : Addr} {fd : FuncData} (F : Fun K "yard_words" "yard_words" s_yard_words f fd) (T : Bt K cl mg)  : FnOk P w K mg base CX0 1 f fd ["yard"] (spF K cl 1 Dg.P_yard_words) := by
  have h := fn_ok (P := P) (w := w) (mg := mg) (base := base) (cl := cl) (k := 0) (n := 1) (b := Dg.b_P_yard_words) F sc_yard_words rfl (fun cdv A outer s H E hr => rd_yard_words T  hr)
  exact h
theorem ok_yard_words (D : Df K mg "yard_words" s_yard_words) (T : Bt K cl mg)  : Cal P w K mg base cl CX0 "yard_words" 1 1 Dg.P_yard_words := by
  obtain ⟨f, fd, F, gl⟩ := D
  exact ⟨f, fd, _, fk_yard_words F T , gl, F.kp, F.binds (ps := ["yard"]) fun _ _ _ _ _ _ us hl => match us, hl with | [_], _ => rfl⟩
theorem rd_read (T : Bt K cl mg) (c_number_of : Cal P w K mg base cl (L2N.CX P w) "number_of" 1 1 Dg.P_number_of) (c_yard_words : Cal P w K mg base cl CX0 "yard_words" 1 1 Dg.P_yard_words) (c_is_yard : Cal P w K mg base cl CX0 "is_yard" 3 1 Dg.P_is_yard) {f : Addr} {cdv : Value} {A : Around} {outer : List Env} {s : Shared} {H : Hp} {E : XK} (hr : Room 3 (A.deeper (envOfC "read" (defScope s_read) s.heap.objs.size f cdv))) :
    ∃ t, PSs (cxOf (L2N.CX P w) P w K mg base N_read "read" (defScope s_read) f cdv A outer s H E) (defBody s_read) t ∧ RdS K cl E t Dg.b_P_read := by
  obtain ⟨f_number_of, d_number_of, p_number_of, c_number_of_⟩ := c_number_of
  have c_number_of := c_number_of_
  obtain ⟨f_yard_words, d_yard_words, p_yard_words, c_yard_words_⟩ := c_yard_words
  have c_yard_words := c_yard_words_
  obtain ⟨f_is_yard, d_is_yard, p_is_yard, c_is_yard_⟩ := c_is_yard
  have c_is_yard := c_is_yard_
  obtain ⟨C_NoText, xr_NoText, hc_NoText⟩ := T.r_NoText
  have sc := sc_read
  exact ⟨_, (pss_cons (ps_if (pt_not (pt_val (pe_callB (cr_isiX 3 (by decide)) (by rfl) T.isinstance (by decide +kernel) (pa_cons (pv 0) (pa_cons (pe_bltn (v := .ty "str") (by rfl) T.str (by decide +kernel) rfl) pa_nil))))) (pss_one (ps_raiseN rfl (L2N.takes_of rfl rfl rfl rfl) xr_NoText (by rfl))) pss_nil)
      (pss_cons (ps_set (i := 1) sc.nd rfl (.inl rfl) (pe_split (pv 0) pe_str))
      (pss_cons (ps_if (pt_cmpR (op_neX hr.units) (pe_op op_modX (pe_callB cr_lenX (by rfl) T.len (by decide +kernel) (pa_cons (pv 1) pa_nil)) pe_int) pe_int (nomark _)) (pss_one (ps_raiseN rfl (L2N.takes_of rfl rfl rfl rfl) xr_NoText (by rfl))) pss_nil)
      (pss_cons (ps_set (i := 2) sc.nd rfl (.inl rfl) (pe_lst pa_nil))
      (pss_cons (ps_for (L2.passes_of rfl) rfl (pi_range3 (by rfl) T.range (pa_cons pe_int (pa_cons (pe_callB cr_lenX (by rfl) T.len (by decide +kernel) (pa_cons (pv 1) pa_nil)) (pa_cons pe_int pa_nil)))) (pg_name (i := 3) sc.nd rfl (by first | exact Or.inl rfl | exact Or.inr rfl)) (pss_one (ps_expr (pe_bm PySem.F.plainAttrs_list PySem.F.slot_list_append PySem.F.type_list_append mt_append (pv 2) (pa_cons (pe_callTy cr_tupX (by rfl) T.tuple (by decide +kernel) (pa_cons (pe_lcE (own := [("word", 5)]) rfl sc.nd (pi_seq (pe_slice sl_X (pv 1) (po_some (pe_op op_addX (pv 3) pe_int)) (po_some (pe_op op_addX (pv 3) pe_int)))) (blkOk_by (N := N_read) (sc := defScope s_read) (by decide +kernel)) rfl rfl (L2N.takes_of rfl rfl rfl rfl) (fun _ _ _ _ _ => (pg_name (i := 5) sc.nd rfl (by first | exact Or.inl rfl | exact Or.inr rfl))) (fun _ _ _ _ _ => pts_nil) (fun _ _ _ _ _ _ hq => (pe_call c_number_of.ok (hr.mono (by decide)) rfl c_number_of.gl c_number_of.kp c_number_of.bi .nil hq (pa_cons (pv 5) pa_nil)))) pa_nil)) pa_nil)))))
      (pss_cons (ps_set (i := 4) sc.nd rfl (.inl rfl) (pe_tup (pa_cons (pe_call c_number_of.ok (hr.mono (by decide)) rfl c_number_of.gl c_number_of.kp c_number_of.bi .nil (passT (L2N.takes_of rfl rfl rfl rfl)) (pa_cons (pe_ix ix_X (pv 1) pe_int (fun _ _ => rfl)) pa_nil)) (pa_cons (pe_callTy cr_tupX (by rfl) T.tuple (by decide +kernel) (pa_cons (pv 2) pa_nil)) pa_nil))))
      (pss_cons (ps_if (PW.pt (pw_or (pt_not (pt_val (pe_call c_is_yard.ok (hr.mono (by decide)) rfl c_is_yard.gl c_is_yard.kp c_is_yard.bi .nil pass0 (pa_cons (pv 4) pa_nil)))) (pw_or1 (pt_cmpR (op_neX hr.units) (pe_join pe_str (pe_call c_yard_words.ok (hr.mono (by decide)) rfl c_yard_words.gl c_yard_words.kp c_yard_words.bi .nil pass0 (pa_cons (pv 4) pa_nil))) (pv 0) (nomark _))))) (pss_one (ps_raiseN rfl (L2N.takes_of rfl rfl rfl rfl) xr_NoText (by rfl))) pss_nil)
      (PSs.nox (pss_one (ps_ret (pv 4))))))))))),
      (rds_seq (rds_if (rdt_not (rdt_val (Rd.w (rd_isi 3 (rdw_var 0))))) (rds_raise hc_NoText) rds_next)
      (rds_seq (rds_asg (RdN.d (rdn_split (rdw_var 0) (Rd.w (rd_str " ")))) (rdg_name 1))
      (rds_seq (rds_if (rdt_test (Rd.w (rd_op (Rd.w (rd_op (Rd.w (rd_b1 (rdw_var 1))) (Rd.w (rd_int 4)))) (Rd.w (rd_int 2))))) (rds_raise hc_NoText) rds_next)
      (rds_seq (rds_own 2 (rdn_lst rda_nil))
      (rds_seq (rds_for (rdi_rng3 (Rd.w (rd_int 2)) (Rd.w (rd_b1 (rdw_var 1))) (Rd.w (rd_int 4))) (rdg_name 3) (rds_app 2 (rd_b1 (Rd.w (RdN.d (rdn_compX (E2 := E0) (rdi_seq (rd_cut (rdw_var 1) (rdo_int (Rd.w (rd_op (rdw_var 3) (Rd.w (rd_int 1))))) (rdo_int (Rd.w (rd_op (rdw_var 3) (Rd.w (rd_int 4))))))) (rdg_name 5) (by decide) rdt_yes (rd_call (rda_cons (rd_var 5) rda_nil) (AL.cons AL.nil).len)))))))
      (rds_seq (rds_asg (rd_tup (rda_cons (rd_call (rda_cons (rd_op (rdw_var 1) (Rd.w (rd_int 1))) rda_nil) (AL.cons AL.nil).len) (rda_cons (rd_b1 (rdw_var 2)) rda_nil))) (rdg_name 4))
      (rds_seq (rds_if (rdt_or (rdt_not (rdt_val (Rd.w (rd_call0 (rda_cons (rd_var 4) rda_nil) (AL.cons AL.nil).len)))) (rdt_test (Rd.w (rd_op (Rd.w (rd_join (Rd.w (rd_str " ")) (Rd.w (rd_call0 (rda_cons (rd_var 4) rda_nil) (AL.cons AL.nil).len)))) (rdw_var 0))))) (rds_raise hc_NoText) rds_next)
      (rds_ret (rd_var 4)))))))))⟩
theorem fk_read {f : Addr} {fd : FuncData} (F : Fun K "read" "read" s_read f fd) (T : Bt K cl mg) (c_number_of : Cal P w K mg base cl (L2N.CX P w) "number_of" 1 1 Dg.P_number_of) (c_yard_words : Cal P w K mg base cl CX0 "yard_words" 1 1 Dg.P_yard_words) (c_is_yard : Cal P w K mg base cl CX0 "is_yard" 3 1 Dg.P_is_yard) : FnOk P w K mg base (L2N.CX P w) 4 f fd ["text"] (spF K cl 1 Dg.P_read) := by
  have h := fn_okN (P := P) (w := w) (mg := mg) (base := base) (cl := cl) (k := 3) (n := 1) (b := Dg.b_P_read) F sc_read rfl (fun cdv A outer s H E hr => rd_read T c_number_of c_yard_words c_is_yard hr)
  exact h
theorem ok_read (D : Df K mg "read" s_read) (T : Bt K cl mg) (c_number_of : Cal P w K mg base cl (L2N.CX P w) "number_of" 1 1 Dg.P_number_of) (c_yard_words : Cal P w K mg base cl CX0 "yard_words" 1 1 Dg.P_yard_words) (c_is_yard : Cal P w K mg base cl CX0 "is_yard" 3 1 Dg.P_is_yard) : Cal P w K mg base cl (L2N.CX P w) "read" 4 1 Dg.P_read := by
  obtain ⟨f, fd, F, gl⟩ := D
  exact ⟨f, fd, _, fk_read F T c_number_of c_yard_words c_is_yard, gl, F.kp, F.binds (ps := ["text"]) fun _ _ _ _ _ _ us hl => match us, hl with | [_], _ => rfl⟩
theorem rd__law_found (T : Bt K cl mg) (c_read : Cal P w K mg base cl (L2N.CX P w) "read" 4 1 Dg.P_read) {f : Addr} {cdv : Value} {A : Around} {outer : List Env} {s : Shared} {H : Hp} {E : XK} (hr : Room 4 (A.deeper (envOfC "_law_found" (defScope s__law_found) s.heap.objs.size f cdv))) :
    ∃ t, PSs (cxOf CX0 P w K mg base N__law_found "_law_found" (defScope s__law_found) f cdv A outer s H E).nox (defBody s__law_found) t ∧ RdS K cl E0 t Dg.b_L_found := by
  obtain ⟨f_read, d_read, p_read, c_read_⟩ := c_read
  have c_read := c_read_
  obtain ⟨Ch_NoText_NoText, H_NoText_NoText, gh_NoText_NoText, hh_NoText_NoText, eh_NoText_NoText⟩ := T.h_NoText_NoText
  obtain ⟨C_NoText, A1_NoText, A2_NoText, A3_NoText, A4_NoText, S_NoText, gc_NoText, hc_NoText, ex_NoText, ec_NoText, xs_NoText, g1_NoText, g2_NoText, g3_NoText, g4_NoText, gS_NoText⟩ := T.s_NoText
  have eq_NoText_NoText : Ch_NoText_NoText = C_NoText := Value.ref.inj (hh_NoText_NoText.symm.trans hc_NoText)
  subst eq_NoText_NoText
  have sc := sc__law_found
  exact ⟨_, (pss_cons (ps_tryG (E' := E0) (c := "NoText") (i := 2) (b := _) (v := .none) rfl rfl sc.nd rfl rfl ⟨by rfl, by decide, Or.inl gh_NoText_NoText⟩ hc_NoText eh_NoText_NoText (fun E pn xe hp => ⟨_, (pss_one (ps_set (i := 1) sc.nd rfl (.inl rfl) (pe_call c_read.ok (hr.mono (by decide)) rfl c_read.gl c_read.kp c_read.bi .nil hp (pa_cons (pv 0) pa_nil)))), (rds_asg (rd_call (rda_cons (rd_var 0) rda_nil) (AL.cons AL.nil).len) (rdg_name 1))⟩)
      (fun a oe pn hz hfl => (pss_suite3 xs_NoText (by decide) (by show 3 < N__law_found.length; decide) (by show 4 < N__law_found.length; decide) (pss_cons (ps_set (i := 3) sc.nd rfl (.inl rfl) (pe_lst (pa_cons (pe_callB (call_isE ec_NoText hz.zc hfl) (by rfl) T.isinstance (by decide +kernel) (pa_cons (pv 2) (pa_cons (pe_glob (v := .ref A1_NoText) (by rfl) g1_NoText rfl) pa_nil))) (pa_cons (pe_callB (call_isE ec_NoText hz.zc hfl) (by rfl) T.isinstance (by decide +kernel) (pa_cons (pv 2) (pa_cons (pe_glob (v := .ref A2_NoText) (by rfl) g2_NoText rfl) pa_nil))) (pa_cons (pe_callB (call_isE ec_NoText hz.zc hfl) (by rfl) T.isinstance (by decide +kernel) (pa_cons (pv 2) (pa_cons (pe_glob (v := .ref A3_NoText) (by rfl) g3_NoText rfl) pa_nil))) (pa_cons (pe_callB (call_isE ec_NoText hz.zc hfl) (by rfl) T.isinstance (by decide +kernel) (pa_cons (pv 2) (pa_cons (pe_glob (v := .ref A4_NoText) (by rfl) g4_NoText rfl) pa_nil))) pa_nil)))))) (pss_cons (ps_set (i := 4) sc.nd rfl (.inl rfl) (pe_and (pe_callB (call_isE ec_NoText hz.zc hfl) (by rfl) T.isinstance (by decide +kernel) (pa_cons (pv 2) (pa_cons (pe_glob (v := .ref S_NoText) (by rfl) gS_NoText rfl) pa_nil))) (pe_and (pe_callB (call_isE ec_NoText hz.zc hfl) (by rfl) T.isinstance (by decide +kernel) (pa_cons (pv 2) (pa_cons (pe_bltn (v := .ty "ValueError") (by rfl) T.ValueError (by decide +kernel) rfl) pa_nil))) (pe_one (pe_not (pe_callB (cr_anyHot (hot_of hz hfl)) (by rfl) T.any (by decide +kernel) (pa_cons (pv 3) pa_nil))))))) (pss_one (ps_ret (pe_ix ix_X (pe_lst (pa_cons (pe_tup pa_nil) (pa_cons pe_non pa_nil))) (pe_callTy cr_intX (by rfl) T.int (by decide +kernel) (pa_cons (pv 4) pa_nil)) (fun _ _ => rfl)))))))))
      (pss_one (ps_ret (pe_ix ix_X (pe_lst (pa_cons (pv 1) (pa_cons (pe_tup pa_nil) pa_nil))) (pe_callTy cr_intX (by rfl) T.int (by decide +kernel) (pa_cons (pe_cmpR op_isX (pv 1) pe_non (nomark _)) pa_nil)) (fun _ _ => rfl))))),
      (rds_seq rds_sem
      (rds_ret (rd_op (Rd.w (RdN.d (rdn_lst (rda_cons (rd_var 1) (rda_cons (rd_tup rda_nil) rda_nil))))) (Rd.w (rd_b1 (Rd.w (rd_op (rdw_var 1) (Rd.w rd_non))))))))⟩
theorem fk__law_found {f : Addr} {fd : FuncData} (F : Fun K "_law_found" "_law_found" s__law_found f fd) (T : Bt K cl mg) (c_read : Cal P w K mg base cl (L2N.CX P w) "read" 4 1 Dg.P_read) : FnOk P w K mg base CX0 5 f fd ["_law_text"] (spF K cl 1 Dg.L_found) := by
  have h := fn_ok (P := P) (w := w) (mg := mg) (base := base) (cl := cl) (k := 4) (n := 1) (b := Dg.b_L_found) F sc__law_found rfl (fun cdv A outer s H E hr => rd__law_found T c_read hr)
  exact h
theorem ok__law_found (D : Df K mg "_law_found" s__law_found) (T : Bt K cl mg) (c_read : Cal P w K mg base cl (L2N.CX P w) "read" 4 1 Dg.P_read) : Cal P w K mg base cl CX0 "_law_found" 5 1 Dg.L_found := by
  obtain ⟨f, fd, F, gl⟩ := D
  exact ⟨f, fd, _, fk__law_found F T c_read, gl, F.kp, F.binds (ps := ["_law_text"]) fun _ _ _ _ _ _ us hl => match us, hl with | [_], _ => rfl⟩
theorem rd__law_changed (T : Bt K cl mg)  {f : Addr} {cdv : Value} {A : Around} {outer : List Env} {s : Shared} {H : Hp} {E : XK} (hr : Room 0 (A.deeper (envOfC "_law_changed" (defScope s__law_changed) s.heap.objs.size f cdv))) :
    ∃ t, PSs (cxOf CX0 P w K mg base N__law_changed "_law_changed" (defScope s__law_changed) f cdv A outer s H E).nox (defBody s__law_changed) t ∧ RdS K cl E0 t Dg.b_L_changed := by
  have sc := sc__law_changed
  exact ⟨_, (pss_cons (ps_set (i := 2) sc.nd rfl (.inl rfl) (pe_split (pv 0) pe_str))
      (pss_cons (ps_set (i := 3) sc.nd rfl (.inl rfl) (pe_op op_modX (pe_op op_fdivX (pv 1) pe_int) (pe_callB cr_lenX (by rfl) T.len (by decide +kernel) (pa_cons (pv 2) pa_nil))))
      (pss_cons (ps_set (i := 4) sc.nd rfl (.inl rfl) (pe_op op_modX (pe_op op_fdivX (pv 1) pe_int) (pe_op op_addX (pe_callB cr_lenX (by rfl) T.len (by decide +kernel) (pa_cons (pv 0) pa_nil)) pe_int)))
      (pss_cons (ps_set (i := 5) sc.nd rfl (.inl rfl) (pe_op op_modX (pv 1) pe_int))
      (pss_cons (ps_if (pt_cmpR (op_eqX hr.units) (pv 5) pe_int (nomark _)) (pss_one (ps_ret (pe_op op_addX (pe_slice sl_X (pv 0) po_none (po_some (pv 4))) (pe_slice sl_X (pv 0) (po_some (pe_op op_addX (pv 4) pe_int)) po_none)))) pss_nil)
      (pss_cons (ps_if (pt_cmpR (op_ltX hr.units) (pv 5) pe_int (nomark _)) (pss_cons (ps_set (i := 6) sc.nd rfl (.inl rfl) (pe_ix ix_X pe_str (pe_op op_modX (pe_op op_fdivX (pv 1) pe_int) pe_int) (fun _ _ => rfl)))
      (pss_one (ps_ret (pe_op op_addX (pe_op op_addX (pe_slice sl_X (pv 0) po_none (po_some (pv 4))) (pv 6)) (pe_slice sl_X (pv 0) (po_some (pe_op op_subX (pe_op op_addX (pv 4) (pv 5)) pe_int)) po_none))))) pss_nil)
      (pss_cons (ps_if (pt_cmpR (op_eqX hr.units) (pv 5) pe_int (nomark _)) (pss_one (ps_ret (pe_join pe_str (pe_op op_addX (pe_slice sl_X (pv 2) po_none (po_some (pv 3))) (pe_slice sl_X (pv 2) (po_some (pe_op op_addX (pv 3) pe_int)) po_none))))) pss_nil)
      (pss_cons (ps_if (pt_cmpR (op_eqX hr.units) (pv 5) pe_int (nomark _)) (pss_one (ps_ret (pe_join pe_str (pe_op op_addX (pe_op op_addX (pe_slice sl_X (pv 2) po_none (po_some (pv 3))) (pe_slice sl_X (pv 2) (po_some (pv 3)) (po_some (pe_op op_addX (pv 3) pe_int)))) (pe_slice sl_X (pv 2) (po_some (pv 3)) po_none))))) pss_nil)
      (pss_cons (ps_if (pt_cmpR (op_eqX hr.units) (pv 5) pe_int (nomark _)) (pss_cons (ps_set (i := 7) sc.nd rfl (.inl rfl) (pe_op op_addX (pe_slice sl_X (pv 2) (po_some (pe_op op_addX (pv 3) pe_int)) (po_some (pe_op op_addX (pv 3) pe_int))) (pe_slice sl_X (pv 2) (po_some (pv 3)) (po_some (pe_op op_addX (pv 3) pe_int)))))
      (pss_one (ps_ret (pe_join pe_str (pe_op op_addX (pe_op op_addX (pe_slice sl_X (pv 2) po_none (po_some (pv 3))) (pv 7)) (pe_slice sl_X (pv 2) (po_some (pe_op op_addX (pv 3) pe_int)) po_none)))))) pss_nil)
      (pss_cons (ps_set (i := 8) sc.nd rfl (.inl rfl) (pe_split pe_str pe_str))
      (pss_one (ps_ret (pe_join pe_str (pe_op op_addX (pe_op op_addX (pe_slice sl_X (pv 2) po_none (po_some (pv 3))) (pe_lst (pa_cons (pe_ix ix_X (pv 8) (pe_op op_modX (pe_op op_fdivX (pv 1) pe_int) pe_int) (fun _ _ => rfl)) pa_nil))) (pe_slice sl_X (pv 2) (po_some (pe_op op_addX (pv 3) pe_int)) po_none))))))))))))))),
      (rds_seq (rds_asg (RdN.d (rdn_split (rdw_var 0) (Rd.w (rd_str " ")))) (rdg_name 2))
      (rds_seq (rds_asg (rd_op (Rd.w (rd_op (rdw_var 1) (Rd.w (rd_int 8)))) (Rd.w (rd_b1 (rdw_var 2)))) (rdg_name 3))
      (rds_seq (rds_asg (rd_op (Rd.w (rd_op (rdw_var 1) (Rd.w (rd_int 8)))) (Rd.w (rd_op (Rd.w (rd_b1 (rdw_var 0))) (Rd.w (rd_int 1))))) (rdg_name 4))
      (rds_seq (rds_asg (rd_op (rdw_var 1) (Rd.w (rd_int 8))) (rdg_name 5))
      (rds_seq (rds_if (rdt_test (Rd.w (rd_op (rdw_var 5) (Rd.w (rd_int 0))))) (rds_ret (rd_op (Rd.w (rd_cut (rdw_var 0) rdo_no (rdo_int (rdw_var 4)))) (Rd.w (rd_cut (rdw_var 0) (rdo_int (Rd.w (rd_op (rdw_var 4) (Rd.w (rd_int 1))))) rdo_no)))) rds_next)
      (rds_seq (rds_if (rdt_test (Rd.w (rd_op (rdw_var 5) (Rd.w (rd_int 3))))) (rds_seq (rds_asg (rd_op (Rd.w (rd_str " 0123456-_y\n\t")) (Rd.w (rd_op (Rd.w (rd_op (rdw_var 1) (Rd.w (rd_int 7)))) (Rd.w (rd_int 13))))) (rdg_name 6))
      (rds_ret (rd_op (Rd.w (rd_op (Rd.w (rd_cut (rdw_var 0) rdo_no (rdo_int (rdw_var 4)))) (rdw_var 6))) (Rd.w (rd_cut (rdw_var 0) (rdo_int (Rd.w (rd_op (Rd.w (rd_op (rdw_var 4) (rdw_var 5))) (Rd.w (rd_int 1))))) rdo_no))))) rds_next)
      (rds_seq (rds_if (rdt_test (Rd.w (rd_op (rdw_var 5) (Rd.w (rd_int 3))))) (rds_ret (rd_join (Rd.w (rd_str " ")) (Rd.w (rd_op (Rd.w (rd_cut (rdw_var 2) rdo_no (rdo_int (rdw_var 3)))) (Rd.w (rd_cut (rdw_var 2) (rdo_int (Rd.w (rd_op (rdw_var 3) (Rd.w (rd_int 1))))) rdo_no)))))) rds_next)
      (rds_seq (rds_if (rdt_test (Rd.w (rd_op (rdw_var 5) (Rd.w (rd_int 4))))) (rds_ret (rd_join (Rd.w (rd_str " ")) (Rd.w (rd_op (Rd.w (rd_op (Rd.w (rd_cut (rdw_var 2) rdo_no (rdo_int (rdw_var 3)))) (Rd.w (rd_cut (rdw_var 2) (rdo_int (rdw_var 3)) (rdo_int (Rd.w (rd_op (rdw_var 3) (Rd.w (rd_int 1))))))))) (Rd.w (rd_cut (rdw_var 2) (rdo_int (rdw_var 3)) rdo_no)))))) rds_next)
      (rds_seq (rds_if (rdt_test (Rd.w (rd_op (rdw_var 5) (Rd.w (rd_int 5))))) (rds_seq (rds_asg (rd_op (Rd.w (rd_cut (rdw_var 2) (rdo_int (Rd.w (rd_op (rdw_var 3) (Rd.w (rd_int 1))))) (rdo_int (Rd.w (rd_op (rdw_var 3) (Rd.w (rd_int 2))))))) (Rd.w (rd_cut (rdw_var 2) (rdo_int (rdw_var 3)) (rdo_int (Rd.w (rd_op (rdw_var 3) (Rd.w (rd_int 1)))))))) (rdg_name 7))
      (rds_ret (rd_join (Rd.w (rd_str " ")) (Rd.w (rd_op (Rd.w (rd_op (Rd.w (rd_cut (rdw_var 2) rdo_no (rdo_int (rdw_var 3)))) (rdw_var 7))) (Rd.w (rd_cut (rdw_var 2) (rdo_int (Rd.w (rd_op (rdw_var 3) (Rd.w (rd_int 2))))) rdo_no))))))) rds_next)
      (rds_seq (rds_asg (RdN.d (rdn_split (Rd.w (rd_str "yard link 0 1 2 3 4 5 6 00 01 -1 a")) (Rd.w (rd_str " ")))) (rdg_name 8))
      (rds_ret (rd_join (Rd.w (rd_str " ")) (Rd.w (rd_op (Rd.w (rd_op (Rd.w (rd_cut (rdw_var 2) rdo_no (rdo_int (rdw_var 3)))) (Rd.w (RdN.d (rdn_lst (rda_cons (rd_op (rdw_var 8) (Rd.w (rd_op (Rd.w (rd_op (rdw_var 1) (Rd.w (rd_int 7)))) (Rd.w (rd_int 13))))) rda_nil)))))) (Rd.w (rd_cut (rdw_var 2) (rdo_int (Rd.w (rd_op (rdw_var 3) (Rd.w (rd_int 1))))) rdo_no))))))))))))))))⟩
theorem fk__law_changed {f : Addr} {fd : FuncData} (F : Fun K "_law_changed" "_law_changed" s__law_changed f fd) (T : Bt K cl mg)  : FnOk P w K mg base CX0 1 f fd ["_law_text", "_law_number_here"] (spF K cl 2 Dg.L_changed) := by
  have h := fn_ok (P := P) (w := w) (mg := mg) (base := base) (cl := cl) (k := 0) (n := 2) (b := Dg.b_L_changed) F sc__law_changed rfl (fun cdv A outer s H E hr => rd__law_changed T  hr)
  exact h
theorem ok__law_changed (D : Df K mg "_law_changed" s__law_changed) (T : Bt K cl mg)  : Cal P w K mg base cl CX0 "_law_changed" 1 2 Dg.L_changed := by
  obtain ⟨f, fd, F, gl⟩ := D
  exact ⟨f, fd, _, fk__law_changed F T , gl, F.kp, F.binds (ps := ["_law_text", "_law_number_here"]) fun _ _ _ _ _ _ us hl => match us, hl with | [_, _], _ => rfl⟩
theorem rd__law_number (T : Bt K cl mg)  {f : Addr} {cdv : Value} {A : Around} {outer : List Env} {s : Shared} {H : Hp} {E : XK} (hr : Room 0 (A.deeper (envOfC "_law_number" (defScope s__law_number) s.heap.objs.size f cdv))) :
    ∃ t, PSs (cxOf CX0 P w K mg base N__law_number "_law_number" (defScope s__law_number) f cdv A outer s H E).nox (defBody s__law_number) t ∧ RdS K cl E0 t Dg.b_L_number := by
  have sc := sc__law_number
  exact ⟨_, (pss_one (ps_ret (pe_and (pe_callB (cr_isiX 0 (by decide)) (by rfl) T.isinstance (by decide +kernel) (pa_cons (pv 0) (pa_cons (pe_bltn (v := .ty "int") (by rfl) T.int (by decide +kernel) rfl) pa_nil))) (pe_and (pe_not (pe_callB (cr_isiX 1 (by decide)) (by rfl) T.isinstance (by decide +kernel) (pa_cons (pv 0) (pa_cons (pe_bltn (v := .ty "bool") (by rfl) T.bool (by decide +kernel) rfl) pa_nil)))) (pe_one (pe_chain (op_leX hr.units) (op_leX hr.units) (pv 1) (pv 0) (pv 2))))))),
      (rds_ret (rd_and (Rd.w (rd_isi 0 (rdw_var 0))) (rd_and (Rd.w (rd_not (Rd.w (rd_isi 1 (rdw_var 0))))) (rd_chain (rdw_var 1) (rdw_var 0) (rdw_var 2)))))⟩
theorem fk__law_number {f : Addr} {fd : FuncData} (F : Fun K "_law_number" "_law_number" s__law_number f fd) (T : Bt K cl mg)  : FnOk P w K mg base CX0 1 f fd ["_law_thing", "_law_low", "_law_high"] (spF K cl 3 Dg.L_number) := by
  have h := fn_ok (P := P) (w := w) (mg := mg) (base := base) (cl := cl) (k := 0) (n := 3) (b := Dg.b_L_number) F sc__law_number rfl (fun cdv A outer s H E hr => rd__law_number T  hr)
  exact h
theorem ok__law_number (D : Df K mg "_law_number" s__law_number) (T : Bt K cl mg)  : Cal P w K mg base cl CX0 "_law_number" 1 3 Dg.L_number := by
  obtain ⟨f, fd, F, gl⟩ := D
  exact ⟨f, fd, _, fk__law_number F T , gl, F.kp, F.binds (ps := ["_law_thing", "_law_low", "_law_high"]) fun _ _ _ _ _ _ us hl => match us, hl with | [_, _, _], _ => rfl⟩
theorem rd__law_is_link (T : Bt K cl mg) (c__law_number : Cal P w K mg base cl CX0 "_law_number" 1 3 Dg.L_number) {f : Addr} {cdv : Value} {A : Around} {outer : List Env} {s : Shared} {H : Hp} {E : XK} (hr : Room 1 (A.deeper (envOfC "_law_is_link" (defScope s__law_is_link) s.heap.objs.size f cdv))) :
    ∃ t, PSs (cxOf CX0 P w K mg base N__law_is_link "_law_is_link" (defScope s__law_is_link) f cdv A outer s H E).nox (defBody s__law_is_link) t ∧ RdS K cl E0 t Dg.b_L_is_link := by
  obtain ⟨f__law_number, d__law_number, p__law_number, c__law_number_⟩ := c__law_number
  have c__law_number := c__law_number_
  have sc := sc__law_is_link
  exact ⟨_, (pss_cons (ps_if (PW.pt (pw_or (pt_not (pt_val (pe_callB (cr_isiX 2 (by decide)) (by rfl) T.isinstance (by decide +kernel) (pa_cons (pv 0) (pa_cons (pe_bltn (v := .ty "tuple") (by rfl) T.tuple (by decide +kernel) rfl) pa_nil))))) (pw_or1 (pt_cmpR (op_neX hr.units) (pe_callB cr_lenX (by rfl) T.len (by decide +kernel) (pa_cons (pv 0) pa_nil)) pe_int (nomark _))))) (pss_one (ps_ret pe_bl)) pss_nil)
      (pss_cons (ps_if (PW.pt (pw_or (pt_not (pt_val (pe_call c__law_number.ok (hr.mono (by decide)) rfl c__law_number.gl c__law_number.kp c__law_number.bi .nil pass0 (pa_cons (pe_ix ix_X (pv 0) pe_int (fun _ _ => rfl)) (pa_cons pe_int (pa_cons (pv 1) pa_nil)))))) (pw_or1 (pt_not (pt_val (pe_call c__law_number.ok (hr.mono (by decide)) rfl c__law_number.gl c__law_number.kp c__law_number.bi .nil pass0 (pa_cons (pe_ix ix_X (pv 0) pe_int (fun _ _ => rfl)) (pa_cons pe_int (pa_cons (pv 1) pa_nil))))))))) (pss_one (ps_ret pe_bl)) pss_nil)
      (pss_one (ps_ret (pe_and (pe_cmpR (op_ltX hr.units) (pe_ix ix_X (pv 0) pe_int (fun _ _ => rfl)) (pe_ix ix_X (pv 0) pe_int (fun _ _ => rfl)) (nomark _)) (pe_one (pe_call c__law_number.ok (hr.mono (by decide)) rfl c__law_number.gl c__law_number.kp c__law_number.bi .nil pass0 (pa_cons (pe_ix ix_X (pv 0) pe_int (fun _ _ => rfl)) (pa_cons pe_int (pa_cons pe_int pa_nil)))))))))),
      (rds_seq (rds_if (rdt_or (rdt_not (rdt_val (Rd.w (rd_isi 2 (rdw_var 0))))) (rdt_test (Rd.w (rd_op (Rd.w (rd_b1 (rdw_var 0))) (Rd.w (rd_int 3)))))) (rds_ret (rd_bl false)) rds_next)
      (rds_seq (rds_if (rdt_or (rdt_not (rdt_val (Rd.w (rd_call0 (rda_cons (rd_op (rdw_var 0) (Rd.w (rd_int 0))) (rda_cons (rd_int 0) (rda_cons (rd_var 1) rda_nil))) (AL.cons (AL.cons (AL.cons AL.nil))).len)))) (rdt_not (rdt_val (Rd.w (rd_call0 (rda_cons (rd_op (rdw_var 0) (Rd.w (rd_int 1))) (rda_cons (rd_int 0) (rda_cons (rd_var 1) rda_nil))) (AL.cons (AL.cons (AL.cons AL.nil))).len))))) (rds_ret (rd_bl false)) rds_next)
      (rds_ret (rd_and (Rd.w (rd_op (Rd.w (rd_op (rdw_var 0) (Rd.w (rd_int 0)))) (Rd.w (rd_op (rdw_var 0) (Rd.w (rd_int 1)))))) (rd_call0 (rda_cons (rd_op (rdw_var 0) (Rd.w (rd_int 2))) (rda_cons (rd_int 1) (rda_cons (rd_int 4) rda_nil))) (AL.cons (AL.cons (AL.cons AL.nil))).len)))))⟩
theorem fk__law_is_link {f : Addr} {fd : FuncData} (F : Fun K "_law_is_link" "_law_is_link" s__law_is_link f fd) (T : Bt K cl mg) (c__law_number : Cal P w K mg base cl CX0 "_law_number" 1 3 Dg.L_number) : FnOk P w K mg base CX0 2 f fd ["_law_thing", "_law_count"] (spF K cl 2 Dg.L_is_link) := by
  have h := fn_ok (P := P) (w := w) (mg := mg) (base := base) (cl := cl) (k := 1) (n := 2) (b := Dg.b_L_is_link) F sc__law_is_link rfl (fun cdv A outer s H E hr => rd__law_is_link T c__law_number hr)
  exact h
theorem ok__law_is_link (D : Df K mg "_law_is_link" s__law_is_link) (T : Bt K cl mg) (c__law_number : Cal P w K mg base cl CX0 "_law_number" 1 3 Dg.L_number) : Cal P w K mg base cl CX0 "_law_is_link" 2 2 Dg.L_is_link := by
  obtain ⟨f, fd, F, gl⟩ := D
  exact ⟨f, fd, _, fk__law_is_link F T c__law_number, gl, F.kp, F.binds (ps := ["_law_thing", "_law_count"]) fun _ _ _ _ _ _ us hl => match us, hl with | [_, _], _ => rfl⟩
theorem rd__law_is_yard (T : Bt K cl mg) (c__law_number : Cal P w K mg base cl CX0 "_law_number" 1 3 Dg.L_number) (c__law_is_link : Cal P w K mg base cl CX0 "_law_is_link" 2 2 Dg.L_is_link) {f : Addr} {cdv : Value} {A : Around} {outer : List Env} {s : Shared} {H : Hp} {E : XK} (hr : Room 2 (A.deeper (envOfC "_law_is_yard" (defScope s__law_is_yard) s.heap.objs.size f cdv))) :
    ∃ t, PSs (cxOf CX0 P w K mg base N__law_is_yard "_law_is_yard" (defScope s__law_is_yard) f cdv A outer s H E).nox (defBody s__law_is_yard) t ∧ RdS K cl E0 t Dg.b_L_is_yard := by
  obtain ⟨f__law_number, d__law_number, p__law_number, c__law_number_⟩ := c__law_number
  have c__law_number := c__law_number_
  obtain ⟨f__law_is_link, d__law_is_link, p__law_is_link, c__law_is_link_⟩ := c__law_is_link
  have c__law_is_link := c__law_is_link_
  have sc := sc__law_is_yard
  exact ⟨_, (pss_cons (ps_if (PW.pt (pw_or (pt_not (pt_val (pe_callB (cr_isiX 2 (by decide)) (by rfl) T.isinstance (by decide +kernel) (pa_cons (pv 0) (pa_cons (pe_bltn (v := .ty "tuple") (by rfl) T.tuple (by decide +kernel) rfl) pa_nil))))) (pw_or (pt_cmpR (op_neX hr.units) (pe_callB cr_lenX (by rfl) T.len (by decide +kernel) (pa_cons (pv 0) pa_nil)) pe_int (nomark _)) (pw_or1 (pt_not (pt_val (pe_call c__law_number.ok (hr.mono (by decide)) rfl c__law_number.gl c__law_number.kp c__law_number.bi .nil pass0 (pa_cons (pe_ix ix_X (pv 0) pe_int (fun _ _ => rfl)) (pa_cons pe_int (pa_cons pe_int pa_nil)))))))))) (pss_one (ps_ret pe_bl)) pss_nil)
      (pss_cons (ps_if (PW.pt (pw_or (pt_not (pt_val (pe_callB (cr_isiX 2 (by decide)) (by rfl) T.isinstance (by decide +kernel) (pa_cons (pe_ix ix_X (pv 0) pe_int (fun _ _ => rfl)) (pa_cons (pe_bltn (v := .ty "tuple") (by rfl) T.tuple (by decide +kernel) rfl) pa_nil))))) (pw_or1 (pt_cmpR (op_neX hr.units) (pe_lc (own := [("_law_link", 6)]) rfl sc.nd (pi_seq (pe_ix ix_X (pv 0) pe_int (fun _ _ => rfl))) (blkOk_by (N := N__law_is_yard) (sc := defScope s__law_is_yard) (by decide +kernel)) (fun _ _ _ _ _ => (pg_name (i := 6) sc.nd rfl (by first | exact Or.inl rfl | exact Or.inr rfl))) (fun _ _ _ _ _ => (pts_one (pt_not (pt_val (pe_call c__law_is_link.ok (hr.mono (by decide)) rfl c__law_is_link.gl c__law_is_link.kp c__law_is_link.bi .nil pass0 (pa_cons (pv 6) (pa_cons (pe_ix ix_X (pv 0) pe_int (fun _ _ => rfl)) pa_nil))))))) (fun _ _ _ _ _ => (pv 6))) (pe_lst pa_nil) (nomark _))))) (pss_one (ps_ret pe_bl)) pss_nil)
      (pss_cons (ps_set (i := 1) sc.nd rfl (.inr rfl) (pe_lc (own := [("_law_link", 6)]) rfl sc.nd (pi_seq (pe_ix ix_X (pv 0) pe_int (fun _ _ => rfl))) (blkOk_by (N := N__law_is_yard) (sc := defScope s__law_is_yard) (by decide +kernel)) (fun _ _ _ _ _ => (pg_name (i := 6) sc.nd rfl (by first | exact Or.inl rfl | exact Or.inr rfl))) (fun _ _ _ _ _ => pts_nil) (fun _ _ _ _ _ => (pe_slice sl_X (pv 6) po_none (po_some pe_int)))))
      (pss_cons (ps_if (pt_cmpR (op_neX hr.units) (pe_lc (own := [("_law_k", 2)]) rfl sc.nd (pi_range2 (by rfl) T.range (pa_cons pe_int (pa_cons (pe_callB cr_lenX (by rfl) T.len (by decide +kernel) (pa_cons (pv 1) pa_nil)) pa_nil))) (blkOk_by (N := N__law_is_yard) (sc := defScope s__law_is_yard) (by decide +kernel)) (fun _ _ _ _ _ => (pg_name (i := 2) sc.nd rfl (by first | exact Or.inl rfl | exact Or.inr rfl))) (fun _ _ _ _ _ => (pts_one (pt_cmpR (op_geX hr.units) (pe_ix ix_X (pv 1) (pe_op op_subX (pv 2) pe_int) (fun _ _ => rfl)) (pe_ix ix_X (pv 1) (pv 2) (fun _ _ => rfl)) (nomark _)))) (fun _ _ _ _ _ => (pv 2))) (pe_lst pa_nil) (nomark _)) (pss_one (ps_ret pe_bl)) pss_nil)
      (pss_cons (ps_set (i := 3) sc.nd rfl (.inl rfl) (pe_lst (pa_cons pe_int pa_nil)))
      (pss_cons (ps_for PassesOwn.never rfl (pi_range1 (by rfl) T.range (pa_cons (pe_ix ix_X (pv 0) pe_int (fun _ _ => rfl)) pa_nil)) (pg_name (i := 2) sc.nd rfl (by first | exact Or.inl rfl | exact Or.inr rfl)) (pss_one (ps_for PassesOwn.never rfl (pi_seq (pv 1)) (pg_tup (n := 2) rfl (pgs_cons (pg_name (i := 4) sc.nd rfl (by first | exact Or.inl rfl | exact Or.inr rfl)) (pgs_cons (pg_name (i := 5) sc.nd rfl (by first | exact Or.inl rfl | exact Or.inr rfl)) pgs_nil))) (pss_cons (ps_if (PW.pt (pw_and (pt_cmpR (op_inX hr.units) (pv 4) (pv 3) (by rfl)) (pw_and1 (pt_cmpR (op_notInX hr.units) (pv 5) (pv 3) (by rfl))))) (pss_one (ps_expr (pe_bm PySem.F.plainAttrs_list PySem.F.slot_list_append PySem.F.type_list_append mt_append (pv 3) (pa_cons (pv 5) pa_nil)))) pss_nil)
      (pss_one (ps_if (PW.pt (pw_and (pt_cmpR (op_inX hr.units) (pv 5) (pv 3) (by rfl)) (pw_and1 (pt_cmpR (op_notInX hr.units) (pv 4) (pv 3) (by rfl))))) (pss_one (ps_expr (pe_bm PySem.F.plainAttrs_list PySem.F.slot_list_append PySem.F.type_list_append mt_append (pv 3) (pa_cons (pv 4) pa_nil)))) pss_nil))))))
      (pss_one (ps_ret (pe_cmpR (op_eqX hr.units) (pe_callB cr_lenX (by rfl) T.len (by decide +kernel) (pa_cons (pv 3) pa_nil)) (pe_op op_addX (pe_ix ix_X (pv 0) pe_int (fun _ _ => rfl)) pe_int) (nomark _)))))))))),
      (rds_seq (rds_if (rdt_or (rdt_not (rdt_val (Rd.w (rd_isi 2 (rdw_var 0))))) (rdt_or (rdt_test (Rd.w (rd_op (Rd.w (rd_b1 (rdw_var 0))) (Rd.w (rd_int 2))))) (rdt_not (rdt_val (Rd.w (rd_call0 (rda_cons (rd_op (rdw_var 0) (Rd.w (rd_int 0))) (rda_cons (rd_int 1) (rda_cons (rd_int 5) rda_nil))) (AL.cons (AL.cons (AL.cons AL.nil))).len)))))) (rds_ret (rd_bl false)) rds_next)
      (rds_seq (rds_if (rdt_or (rdt_not (rdt_val (Rd.w (rd_isi 2 (Rd.w (rd_op (rdw_var 0) (Rd.w (rd_int 1)))))))) (rdt_test (Rd.w (rd_op (Rd.w (RdN.d (rdn_comp (E2 := E0) (rdi_seq (rd_op (rdw_var 0) (Rd.w (rd_int 1)))) (rdg_name 6) (by decide) (rdt_not (rdt_val (Rd.w (rd_call0 (rda_cons (rd_var 6) (rda_cons (rd_op (rdw_var 0) (Rd.w (rd_int 0))) rda_nil)) (AL.cons (AL.cons AL.nil)).len)))) (rd_var 6)))) (Rd.w (RdN.d (rdn_lst rda_nil))))))) (rds_ret (rd_bl false)) rds_next)
      (rds_seq (rds_asg (RdN.d (rdn_comp (E2 := E0) (rdi_seq (rd_op (rdw_var 0) (Rd.w (rd_int 1)))) (rdg_name 6) (by decide) rdt_yes (rd_cut (rdw_var 6) rdo_no (rdo_int (Rd.w (rd_int 2)))))) (rdg_name 1))
      (rds_seq (rds_if (rdt_test (Rd.w (rd_op (Rd.w (RdN.d (rdn_comp (E2 := E0) (rdi_rng2 (Rd.w (rd_int 1)) (Rd.w (rd_b1 (rdw_var 1)))) (rdg_name 2) (by decide) (rdt_test (Rd.w (rd_op (Rd.w (rd_op (rdw_var 1) (Rd.w (rd_op (rdw_var 2) (Rd.w (rd_int 1)))))) (Rd.w (rd_op (rdw_var 1) (rdw_var 2)))))) (rd_var 2)))) (Rd.w (RdN.d (rdn_lst rda_nil)))))) (rds_ret (rd_bl false)) rds_next)
      (rds_seq (rds_own 3 (rdn_lst (rda_cons (rd_int 0) rda_nil)))
      (rds_seq (rds_for (rdi_rng1 (Rd.w (rd_op (rdw_var 0) (Rd.w (rd_int 0))))) (rdg_name 2) (rds_for (rdi_seq (rd_var 1)) (rdg_tup (rdgs_cons 4 (rdgs_cons 5 rdgs_nil))) (rds_seq (rds_if (rdt_and (rdt_test (Rd.w (rd_op (rdw_var 4) (rdw_var 3)))) (rdt_test (Rd.w (rd_op (rdw_var 5) (rdw_var 3))))) (rds_app 3 (rd_var 5)) rds_next)
      (rds_if (rdt_and (rdt_test (Rd.w (rd_op (rdw_var 5) (rdw_var 3)))) (rdt_test (Rd.w (rd_op (rdw_var 4) (rdw_var 3))))) (rds_app 3 (rd_var 4)) rds_next))))
      (rds_ret (rd_op (Rd.w (rd_b1 (rdw_var 3))) (Rd.w (rd_op (Rd.w (rd_op (rdw_var 0) (Rd.w (rd_int 0)))) (Rd.w (rd_int 1))))))))))))⟩
theorem fk__law_is_yard {f : Addr} {fd : FuncData} (F : Fun K "_law_is_yard" "_law_is_yard" s__law_is_yard f fd) (T : Bt K cl mg) (c__law_number : Cal P w K mg base cl CX0 "_law_number" 1 3 Dg.L_number) (c__law_is_link : Cal P w K mg base cl CX0 "_law_is_link" 2 2 Dg.L_is_link) : FnOk P w K mg base CX0 3 f fd ["_law_thing"] (spF K cl 1 Dg.L_is_yard) := by
  have h := fn_ok (P := P) (w := w) (mg := mg) (base := base) (cl := cl) (k := 2) (n := 1) (b := Dg.b_L_is_yard) F sc__law_is_yard rfl (fun cdv A outer s H E hr => rd__law_is_yard T c__law_number c__law_is_link hr)
  exact h
theorem ok__law_is_yard (D : Df K mg "_law_is_yard" s__law_is_yard) (T : Bt K cl mg) (c__law_number : Cal P w K mg base cl CX0 "_law_number" 1 3 Dg.L_number) (c__law_is_link : Cal P w K mg base cl CX0 "_law_is_link" 2 2 Dg.L_is_link) : Cal P w K mg base cl CX0 "_law_is_yard" 3 1 Dg.L_is_yard := by
  obtain ⟨f, fd, F, gl⟩ := D
  exact ⟨f, fd, _, fk__law_is_yard F T c__law_number c__law_is_link, gl, F.kp, F.binds (ps := ["_law_thing"]) fun _ _ _ _ _ _ us hl => match us, hl with | [_], _ => rfl⟩
theorem rd_law (T : Bt K cl mg) (c__law_yard : Cal P w K mg base cl CX0 "_law_yard" 2 3 Dg.L_yard) (c__law_mixed : Cal P w K mg base cl CX0 "_law_mixed" 2 2 Dg.L_mixed) (c__law_written : Cal P w K mg base cl CX0 "_law_written" 1 1 Dg.L_written) (c__law_changed : Cal P w K mg base cl CX0 "_law_changed" 1 2 Dg.L_changed) (c__law_drawn : Cal P w K mg base cl CX0 "_law_drawn" 1 2 Dg.L_drawn) (c__law_found : Cal P w K mg base cl CX0 "_law_found" 5 1 Dg.L_found) (c__law_is_yard : Cal P w K mg base cl CX0 "_law_is_yard" 3 1 Dg.L_is_yard) {f : Addr} {cdv : Value} {A : Around} {outer : List Env} {s : Shared} {H : Hp} {E : XK} (hr : Room 5 (A.deeper (envOfC "law" (defScope s_law) s.heap.objs.size f cdv))) :
    ∃ t, PSs (cxOf CX0 P w K mg base N_law "law" (defScope s_law) f cdv A outer s H E).nox (defBody s_law) t ∧ RdS K cl E0 t Dg.b_P_law := by
  obtain ⟨f__law_yard, d__law_yard, p__law_yard, c__law_yard_⟩ := c__law_yard
  have c__law_yard := c__law_yard_
  obtain ⟨f__law_mixed, d__law_mixed, p__law_mixed, c__law_mixed_⟩ := c__law_mixed
  have c__law_mixed := c__law_mixed_
  obtain ⟨f__law_written, d__law_written, p__law_written, c__law_written_⟩ := c__law_written
  have c__law_written := c__law_written_
  obtain ⟨f__law_changed, d__law_changed, p__law_changed, c__law_changed_⟩ := c__law_changed
  have c__law_changed := c__law_changed_
  obtain ⟨f__law_drawn, d__law_drawn, p__law_drawn, c__law_drawn_⟩ := c__law_drawn
  have c__law_drawn := c__law_drawn_
  obtain ⟨f__law_found, d__law_found, p__law_found, c__law_found_⟩ := c__law_found
  have c__law_found := c__law_found_
  obtain ⟨f__law_is_yard, d__law_is_yard, p__law_is_yard, c__law_is_yard_⟩ := c__law_is_yard
  have c__law_is_yard := c__law_is_yard_
  have sc := sc_law
  exact ⟨_, (pss_cons (ps_set (i := 1) sc.nd rfl (.inl rfl) (pe_call c__law_yard.ok (hr.mono (by decide)) rfl c__law_yard.gl c__law_yard.kp c__law_yard.bi .nil pass0 (pa_cons (pe_call c__law_mixed.ok (hr.mono (by decide)) rfl c__law_mixed.gl c__law_mixed.kp c__law_mixed.bi .nil pass0 (pa_cons (pv 0) (pa_cons pe_int pa_nil))) (pa_cons pe_int (pa_cons pe_int pa_nil)))))
      (pss_cons (ps_set (i := 2) sc.nd rfl (.inl rfl) (pe_call c__law_written.ok (hr.mono (by decide)) rfl c__law_written.gl c__law_written.kp c__law_written.bi .nil pass0 (pa_cons (pv 1) pa_nil)))
      (pss_cons (ps_set (i := 3) sc.nd rfl (.inl rfl) (pe_call c__law_mixed.ok (hr.mono (by decide)) rfl c__law_mixed.gl c__law_mixed.kp c__law_mixed.bi .nil pass0 (pa_cons (pv 0) (pa_cons pe_int pa_nil))))
      (pss_cons (ps_set (i := 4) sc.nd rfl (.inl rfl) (pv 2))
      (pss_cons (ps_for PassesOwn.never rfl (pi_range1 (by rfl) T.range (pa_cons (pe_op op_mulX (pe_op op_modX (pv 3) pe_int) (pe_op op_addX pe_int (pe_op op_modX (pe_op op_fdivX (pv 3) pe_int) pe_int))) pa_nil)) (pg_name (i := 5) sc.nd rfl (by first | exact Or.inl rfl | exact Or.inr rfl)) (pss_one (ps_set (i := 4) sc.nd rfl (.inl rfl) (pe_call c__law_changed.ok (hr.mono (by decide)) rfl c__law_changed.gl c__law_changed.kp c__law_changed.bi .nil pass0 (pa_cons (pv 4) (pa_cons (pe_call c__law_drawn.ok (hr.mono (by decide)) rfl c__law_drawn.gl c__law_drawn.kp c__law_drawn.bi .nil pass0 (pa_cons (pv 3) (pa_cons (pv 5) pa_nil))) pa_nil))))))
      (pss_cons (ps_set (i := 6) sc.nd rfl (.inl rfl) (pe_call c__law_found.ok (hr.mono (by decide)) rfl c__law_found.gl c__law_found.kp c__law_found.bi .nil pass0 (pa_cons (pv 4) pa_nil)))
      (pss_cons (ps_if (pt_cmpR (op_eqX hr.units) (pv 4) (pv 2) (nomark _)) (pss_one (ps_ret (pe_and (pe_cmpR (op_eqX hr.units) (pv 6) (pv 1) (nomark _)) (pe_one (pe_call c__law_is_yard.ok (hr.mono (by decide)) rfl c__law_is_yard.gl c__law_is_yard.kp c__law_is_yard.bi .nil pass0 (pa_cons (pv 6) pa_nil)))))) pss_nil)
      (pss_one (ps_ret (pe_or (pe_cmpR op_isX (pv 6) pe_non (nomark _)) (pe_one (pe_and (pe_call c__law_is_yard.ok (hr.mono (by decide)) rfl c__law_is_yard.gl c__law_is_yard.kp c__law_is_yard.bi .nil pass0 (pa_cons (pv 6) pa_nil)) (pe_one (pe_cmpR (op_eqX hr.units) (pe_call c__law_written.ok (hr.mono (by decide)) rfl c__law_written.gl c__law_written.kp c__law_written.bi .nil pass0 (pa_cons (pv 6) pa_nil)) (pv 4) (nomark _))))))))))))))),
      (rds_seq (rds_asg (rd_call0 (rda_cons (rd_call0 (rda_cons (rd_var 0) (rda_cons (rd_int 0) rda_nil)) (AL.cons (AL.cons AL.nil)).len) (rda_cons (rd_int 5) (rda_cons (rd_int 4) rda_nil))) (AL.cons (AL.cons (AL.cons AL.nil))).len) (rdg_name 1))
      (rds_seq (rds_asg (rd_call0 (rda_cons (rd_var 1) rda_nil) (AL.cons AL.nil).len) (rdg_name 2))
      (rds_seq (rds_asg (rd_call0 (rda_cons (rd_var 0) (rda_cons (rd_int 1) rda_nil)) (AL.cons (AL.cons AL.nil)).len) (rdg_name 3))
      (rds_seq (rds_asg (rd_var 2) (rdg_name 4))
      (rds_seq (rds_for (rdi_rng1 (Rd.w (rd_op (Rd.w (rd_op (rdw_var 3) (Rd.w (rd_int 3)))) (Rd.w (rd_op (Rd.w (rd_int 1)) (Rd.w (rd_op (Rd.w (rd_op (rdw_var 3) (Rd.w (rd_int 3)))) (Rd.w (rd_int 2))))))))) (rdg_name 5) (rds_asg (rd_call0 (rda_cons (rd_var 4) (rda_cons (rd_call0 (rda_cons (rd_var 3) (rda_cons (rd_var 5) rda_nil)) (AL.cons (AL.cons AL.nil)).len) rda_nil)) (AL.cons (AL.cons AL.nil)).len) (rdg_name 4)))
      (rds_seq (rds_asg (rd_call0 (rda_cons (rd_var 4) rda_nil) (AL.cons AL.nil).len) (rdg_name 6))
      (rds_seq (rds_if (rdt_test (Rd.w (rd_op (rdw_var 4) (rdw_var 2)))) (rds_ret (rd_and (Rd.w (rd_op (rdw_var 6) (rdw_var 1))) (rd_call0 (rda_cons (rd_var 6) rda_nil) (AL.cons AL.nil).len))) rds_next)
      (rds_ret (rd_or (Rd.w (rd_op (rdw_var 6) (Rd.w rd_non))) (rd_and (Rd.w (rd_call0 (rda_cons (rd_var 6) rda_nil) (AL.cons AL.nil).len)) (rd_op (Rd.w (rd_call0 (rda_cons (rd_var 6) rda_nil) (AL.cons AL.nil).len)) (rdw_var 4))))))))))))⟩
theorem fk_law {f : Addr} {fd : FuncData} (F : Fun K "law" "law" s_law f fd) (T : Bt K cl mg) (c__law_yard : Cal P w K mg base cl CX0 "_law_yard" 2 3 Dg.L_yard) (c__law_mixed : Cal P w K mg base cl CX0 "_law_mixed" 2 2 Dg.L_mixed) (c__law_written : Cal P w K mg base cl CX0 "_law_written" 1 1 Dg.L_written) (c__law_changed : Cal P w K mg base cl CX0 "_law_changed" 1 2 Dg.L_changed) (c__law_drawn : Cal P w K mg base cl CX0 "_law_drawn" 1 2 Dg.L_drawn) (c__law_found : Cal P w K mg base cl CX0 "_law_found" 5 1 Dg.L_found) (c__law_is_yard : Cal P w K mg base cl CX0 "_law_is_yard" 3 1 Dg.L_is_yard) : FnOk P w K mg base CX0 6 f fd ["_law_script"] (spF K cl 1 Dg.P_law) := by
  have h := fn_ok (P := P) (w := w) (mg := mg) (base := base) (cl := cl) (k := 5) (n := 1) (b := Dg.b_P_law) F sc_law rfl (fun cdv A outer s H E hr => rd_law T c__law_yard c__law_mixed c__law_written c__law_changed c__law_drawn c__law_found c__law_is_yard hr)
  exact h
theorem ok_law (D : Df K mg "law" s_law) (T : Bt K cl mg) (c__law_yard : Cal P w K mg base cl CX0 "_law_yard" 2 3 Dg.L_yard) (c__law_mixed : Cal P w K mg base cl CX0 "_law_mixed" 2 2 Dg.L_mixed) (c__law_written : Cal P w K mg base cl CX0 "_law_written" 1 1 Dg.L_written) (c__law_changed : Cal P w K mg base cl CX0 "_law_changed" 1 2 Dg.L_changed) (c__law_drawn : Cal P w K mg base cl CX0 "_law_drawn" 1 2 Dg.L_drawn) (c__law_found : Cal P w K mg base cl CX0 "_law_found" 5 1 Dg.L_found) (c__law_is_yard : Cal P w K mg base cl CX0 "_law_is_yard" 3 1 Dg.L_is_yard) : Cal P w K mg base cl CX0 "law" 6 1 Dg.P_law := by
  obtain ⟨f, fd, F, gl⟩ := D
  exact ⟨f, fd, _, fk_law F T c__law_yard c__law_mixed c__law_written c__law_changed c__law_drawn c__law_found c__law_is_yard, gl, F.kp, F.binds (ps := ["_law_script"]) fun _ _ _ _ _ _ us hl => match us, hl with | [_], _ => rfl⟩
end
end Wk

namespace Wk
open PySem PySem.Spec PyProof.Rows L2 Dw
theorem all_mk {l : PySem.W.OpenLaw} {w : World} {K : PySem.W.Frag} {h : Heap} {mg : Str → Option Value} {fa : Addr} (X : K.In h) (G : h.Ns mainGlobals mg) (hfa : mg "law" = some (.ref fa))
    {f0 : Addr} {od0 an0 : Option Addr} {sl0 : Array (Option Value)} {oc0 kV0 dc0 pm0 cd0 ct0 : Value}
    (a0 : PySem.W.nsIn K mainGlobals "_law_drawn" = some (some (.ref f0))) (l0 : K.lookup f0 = some ⟨oc0, od0, .func (PySem.W.fnOf "_law_drawn" "_law_drawn" (defArgs s__law_drawn) (defBody s__law_drawn) (defScope s__law_drawn) .none kV0 dc0 pm0 an0 cd0 ct0), sl0⟩) (c0 : PySem.W.codeIn K cd0 "_law_drawn" = true) (k0 : PySem.W.keepIn K (.ref f0) = true)
    {f1 : Addr} {od1 an1 : Option Addr} {sl1 : Array (Option Value)} {oc1 kV1 dc1 pm1 cd1 ct1 : Value}
    (a1 : PySem.W.nsIn K mainGlobals "_law_yard" = some (some (.ref f1))) (l1 : K.lookup f1 = some ⟨oc1, od1, .func (PySem.W.fnOf "_law_yard" "_law_yard" (defArgs s__law_yard) (defBody s__law_yard) (defScope s__law_yard) .none kV1 dc1 pm1 an1 cd1 ct1), sl1⟩) (c1 : PySem.W.codeIn K cd1 "_law_yard" = true) (k1 : PySem.W.keepIn K (.ref f1) = true)
    {f2 : Addr} {od2 an2 : Option Addr} {sl2 : Array (Option Value)} {oc2 kV2 dc2 pm2 cd2 ct2 : Value}
    (a2 : PySem.W.nsIn K mainGlobals "_law_written" = some (some (.ref f2))) (l2 : K.lookup f2 = some ⟨oc2, od2, .func (PySem.W.fnOf "_law_written" "_law_written" (defArgs s__law_written) (defBody s__law_written) (defScope s__law_written) .none kV2 dc2 pm2 an2 cd2 ct2), sl2⟩) (c2 : PySem.W.codeIn K cd2 "_law_written" = true) (k2 : PySem.W.keepIn K (.ref f2) = true)
    {f3 : Addr} {od3 an3 : Option Addr} {sl3 : Array (Option Value)} {oc3 kV3 dc3 pm3 cd3 ct3 : Value}
    (a3 : PySem.W.nsIn K mainGlobals "_law_cell_at" = some (some (.ref f3))) (l3 : K.lookup f3 = some ⟨oc3, od3, .func (PySem.W.fnOf "_law_cell_at" "_law_cell_at" (defArgs s__law_cell_at) (defBody s__law_cell_at) (defScope s__law_cell_at) .none kV3 dc3 pm3 an3 cd3 ct3), sl3⟩) (c3 : PySem.W.codeIn K cd3 "_law_cell_at" = true) (k3 : PySem.W.keepIn K (.ref f3) = true)
    {f4 : Addr} {od4 an4 : Option Addr} {sl4 : Array (Option Value)} {oc4 kV4 dc4 pm4 cd4 ct4 : Value}
    (a4 : PySem.W.nsIn K mainGlobals "_law_mixed" = some (some (.ref f4))) (l4 : K.lookup f4 = some ⟨oc4, od4, .func (PySem.W.fnOf "_law_mixed" "_law_mixed" (defArgs s__law_mixed) (defBody s__law_mixed) (defScope s__law_mixed) .none kV4 dc4 pm4 an4 cd4 ct4), sl4⟩) (c4 : PySem.W.codeIn K cd4 "_law_mixed" = true) (k4 : PySem.W.keepIn K (.ref f4) = true)
    {f5 : Addr} {od5 an5 : Option Addr} {sl5 : Array (Option Value)} {oc5 kV5 dc5 pm5 cd5 ct5 : Value}
    (a5 : PySem.W.nsIn K mainGlobals "number_of" = some (some (.ref f5))) (l5 : K.lookup f5 = some ⟨oc5, od5, .func (PySem.W.fnOf "number_of" "number_of" (defArgs s_number_of) (defBody s_number_of) (defScope s_number_of) .none kV5 dc5 pm5 an5 cd5 ct5), sl5⟩) (c5 : PySem.W.codeIn K cd5 "number_of" = true) (k5 : PySem.W.keepIn K (.ref f5) = true)
    {f6 : Addr} {od6 an6 : Option Addr} {sl6 : Array (Option Value)} {oc6 kV6 dc6 pm6 cd6 ct6 : Value}
    (a6 : PySem.W.nsIn K mainGlobals "is_number" = some (some (.ref f6))) (l6 : K.lookup f6 = some ⟨oc6, od6, .func (PySem.W.fnOf "is_number" "is_number" (defArgs s_is_number) (defBody s_is_number) (defScope s_is_number) .none kV6 dc6 pm6 an6 cd6 ct6), sl6⟩) (c6 : PySem.W.codeIn K cd6 "is_number" = true) (k6 : PySem.W.keepIn K (.ref f6) = true)
    {f7 : Addr} {od7 an7 : Option Addr} {sl7 : Array (Option Value)} {oc7 kV7 dc7 pm7 cd7 ct7 : Value}
    (a7 : PySem.W.nsIn K mainGlobals "come_to" = some (some (.ref f7))) (l7 : K.lookup f7 = some ⟨oc7, od7, .func (PySem.W.fnOf "come_to" "come_to" (defArgs s_come_to) (defBody s_come_to) (defScope s_come_to) .none kV7 dc7 pm7 an7 cd7 ct7), sl7⟩) (c7 : PySem.W.codeIn K cd7 "come_to" = true) (k7 : PySem.W.keepIn K (.ref f7) = true)
    {f8 : Addr} {od8 an8 : Option Addr} {sl8 : Array (Option Value)} {oc8 kV8 dc8 pm8 cd8 ct8 : Value}
    (a8 : PySem.W.nsIn K mainGlobals "is_link" = some (some (.ref f8))) (l8 : K.lookup f8 = some ⟨oc8, od8, .func (PySem.W.fnOf "is_link" "is_link" (defArgs s_is_link) (defBody s_is_link) (defScope s_is_link) .none kV8 dc8 pm8 an8 cd8 ct8), sl8⟩) (c8 : PySem.W.codeIn K cd8 "is_link" = true) (k8 : PySem.W.keepIn K (.ref f8) = true)
    {f9 : Addr} {od9 an9 : Option Addr} {sl9 : Array (Option Value)} {oc9 kV9 dc9 pm9 cd9 ct9 : Value}
    (a9 : PySem.W.nsIn K mainGlobals "is_yard" = some (some (.ref f9))) (l9 : K.lookup f9 = some ⟨oc9, od9, .func (PySem.W.fnOf "is_yard" "is_yard" (defArgs s_is_yard) (defBody s_is_yard) (defScope s_is_yard) .none kV9 dc9 pm9 an9 cd9 ct9), sl9⟩) (c9 : PySem.W.codeIn K cd9 "is_yard" = true) (k9 : PySem.W.keepIn K (.ref f9) = true)
    {f10 : Addr} {od10 an10 : Option Addr} {sl10 : Array (Option Value)} {oc10 kV10 dc10 pm10 cd10 ct10 : Value}
    (a10 : PySem.W.nsIn K mainGlobals "yard_words" = some (some (.ref f10))) (l10 : K.lookup f10 = some ⟨oc10, od10, .func (PySem.W.fnOf "yard_words" "yard_words" (defArgs s_yard_words) (defBody s_yard_words) (defScope s_yard_words) .none kV10 dc10 pm10 an10 cd10 ct10), sl10⟩) (c10 : PySem.W.codeIn K cd10 "yard_words" = true) (k10 : PySem.W.keepIn K (.ref f10) = true)
    {f11 : Addr} {od11 an11 : Option Addr} {sl11 : Array (Option Value)} {oc11 kV11 dc11 pm11 cd11 ct11 : Value}
    (a11 : PySem.W.nsIn K mainGlobals "read" = some (some (.ref f11))) (l11 : K.lookup f11 = some ⟨oc11, od11, .func (PySem.W.fnOf "read" "read" (defArgs s_read) (defBody s_read) (defScope s_read) .none kV11 dc11 pm11 an11 cd11 ct11), sl11⟩) (c11 : PySem.W.codeIn K cd11 "read" = true) (k11 : PySem.W.keepIn K (.ref f11) = true)
    {f12 : Addr} {od12 an12 : Option Addr} {sl12 : Array (Option Value)} {oc12 kV12 dc12 pm12 cd12 ct12 : Value}
    (a12 : PySem.W.nsIn K mainGlobals "_law_found" = some (some (.ref f12))) (l12 : K.lookup f12 = some ⟨oc12, od12, .func (PySem.W.fnOf "_law_found" "_law_found" (defArgs s__law_found) (defBody s__law_found) (defScope s__law_found) .none kV12 dc12 pm12 an12 cd12 ct12), sl12⟩) (c12 : PySem.W.codeIn K cd12 "_law_found" = true) (k12 : PySem.W.keepIn K (.ref f12) = true)
    {f13 : Addr} {od13 an13 : Option Addr} {sl13 : Array (Option Value)} {oc13 kV13 dc13 pm13 cd13 ct13 : Value}
    (a13 : PySem.W.nsIn K mainGlobals "_law_changed" = some (some (.ref f13))) (l13 : K.lookup f13 = some ⟨oc13, od13, .func (PySem.W.fnOf "_law_changed" "_law_changed" (defArgs s__law_changed) (defBody s__law_changed) (defScope s__law_changed) .none kV13 dc13 pm13 an13 cd13 ct13), sl13⟩) (c13 : PySem.W.codeIn K cd13 "_law_changed" = true) (k13 : PySem.W.keepIn K (.ref f13) = true)
    {f14 : Addr} {od14 an14 : Option Addr} {sl14 : Array (Option Value)} {oc14 kV14 dc14 pm14 cd14 ct14 : Value}
    (a14 : PySem.W.nsIn K mainGlobals "_law_number" = some (some (.ref f14))) (l14 : K.lookup f14 = some ⟨oc14, od14, .func (PySem.W.fnOf "_law_number" "_law_number" (defArgs s__law_number) (defBody s__law_number) (defScope s__law_number) .none kV14 dc14 pm14 an14 cd14 ct14), sl14⟩) (c14 : PySem.W.codeIn K cd14 "_law_number" = true) (k14 : PySem.W.keepIn K (.ref f14) = true)
    {f15 : Addr} {od15 an15 : Option Addr} {sl15 : Array (Option Value)} {oc15 kV15 dc15 pm15 cd15 ct15 : Value}
    (a15 : PySem.W.nsIn K mainGlobals "_law_is_link" = some (some (.ref f15))) (l15 : K.lookup f15 = some ⟨oc15, od15, .func (PySem.W.fnOf "_law_is_link" "_law_is_link" (defArgs s__law_is_link) (defBody s__law_is_link) (defScope s__law_is_link) .none kV15 dc15 pm15 an15 cd15 ct15), sl15⟩) (c15 : PySem.W.codeIn K cd15 "_law_is_link" = true) (k15 : PySem.W.keepIn K (.ref f15) = true)
    {f16 : Addr} {od16 an16 : Option Addr} {sl16 : Array (Option Value)} {oc16 kV16 dc16 pm16 cd16 ct16 : Value}
    (a16 : PySem.W.nsIn K mainGlobals "_law_is_yard" = some (some (.ref f16))) (l16 : K.lookup f16 = some ⟨oc16, od16, .func (PySem.W.fnOf "_law_is_yard" "_law_is_yard" (defArgs s__law_is_yard) (defBody s__law_is_yard) (defScope s__law_is_yard) .none kV16 dc16 pm16 an16 cd16 ct16), sl16⟩) (c16 : PySem.W.codeIn K cd16 "_law_is_yard" = true) (k16 : PySem.W.keepIn K (.ref f16) = true)
    {f17 : Addr} {od17 an17 : Option Addr} {sl17 : Array (Option Value)} {oc17 kV17 dc17 pm17 cd17 ct17 : Value}
    (a17 : PySem.W.nsIn K mainGlobals "law" = some (some (.ref f17))) (l17 : K.lookup f17 = some ⟨oc17, od17, .func (PySem.W.fnOf "law" "law" (defArgs s_law) (defBody s_law) (defScope s_law) .none kV17 dc17 pm17 an17 cd17 ct17), sl17⟩) (c17 : PySem.W.codeIn K cd17 "law" = true) (k17 : PySem.W.keepIn K (.ref f17) = true)
    (z_ValueError : PySem.W.nsIn K mainGlobals "ValueError" = some none)
    (z_all : PySem.W.nsIn K mainGlobals "all" = some none)
    (z_any : PySem.W.nsIn K mainGlobals "any" = some none)
    (z_bool : PySem.W.nsIn K mainGlobals "bool" = some none)
    (z_int : PySem.W.nsIn K mainGlobals "int" = some none)
    (z_isinstance : PySem.W.nsIn K mainGlobals "isinstance" = some none)
    (z_len : PySem.W.nsIn K mainGlobals "len" = some none)
    (z_max : PySem.W.nsIn K mainGlobals "max" = some none)
    (z_min : PySem.W.nsIn K mainGlobals "min" = some none)
    (z_range : PySem.W.nsIn K mainGlobals "range" = some none)
    (z_sorted : PySem.W.nsIn K mainGlobals "sorted" = some none)
    (z_str : PySem.W.nsIn K mainGlobals "str" = some none)
    (z_tuple : PySem.W.nsIn K mainGlobals "tuple" = some none)
    (z_zip : PySem.W.nsIn K mainGlobals "zip" = some none)
    {t_FIGURES : Tok} (v_FIGURES : PySem.W.nsIn K mainGlobals "FIGURES" = some (some (.str "0123456789" t_FIGURES)))
    {t_LINKS : Tok} (v_LINKS : PySem.W.nsIn K mainGlobals "LINKS" = some (some (.int 4 t_LINKS)))
    {t_PLACES : Tok} (v_PLACES : PySem.W.nsIn K mainGlobals "PLACES" = some (some (.int 5 t_PLACES)))
    {C_NoRest : Addr} (e_NoRest : PySem.W.nsIn K mainGlobals "NoRest" = some (some (.ref C_NoRest))) (ic_NoRest : PySem.W.isClsIn K C_NoRest = true) (tc_NoRest : PySem.W.typeIn K (.ref C_NoRest) = some (.type "type"))
    {C_NoText : Addr} (e_NoText : PySem.W.nsIn K mainGlobals "NoText" = some (some (.ref C_NoText))) (ic_NoText : PySem.W.isClsIn K C_NoText = true) (tc_NoText : PySem.W.typeIn K (.ref C_NoText) = some (.type "type"))
    {C_NoTumble : Addr} (e_NoTumble : PySem.W.nsIn K mainGlobals "NoTumble" = some (some (.ref C_NoTumble))) (ic_NoTumble : PySem.W.isClsIn K C_NoTumble = true) (tc_NoTumble : PySem.W.typeIn K (.ref C_NoTumble) = some (.type "type"))
    {C_NoYard : Addr} (e_NoYard : PySem.W.nsIn K mainGlobals "NoYard" = some (some (.ref C_NoYard))) (ic_NoYard : PySem.W.isClsIn K C_NoYard = true) (tc_NoYard : PySem.W.typeIn K (.ref C_NoYard) = some (.type "type"))
    {C_NotLasting : Addr} (e_NotLasting : PySem.W.nsIn K mainGlobals "NotLasting" = some (some (.ref C_NotLasting))) (ic_NotLasting : PySem.W.isClsIn K C_NotLasting = true) (tc_NotLasting : PySem.W.typeIn K (.ref C_NotLasting) = some (.type "type"))
    {C_SandError : Addr} (e_SandError : PySem.W.nsIn K mainGlobals "SandError" = some (some (.ref C_SandError))) (ic_SandError : PySem.W.isClsIn K C_SandError = true) (tc_SandError : PySem.W.typeIn K (.ref C_SandError) = some (.type "type"))
    (rk_NoText : PySem.W.keepIn K (.ref C_NoText) = true) (rq_NoText : PySem.W.excIn K C_NoText [.type "ValueError", .type "Exception", .type "BaseException", .type "object"] "ValueError.__new__" = true)
    (rs_NoText : PySem.W.subIn K (.ref C_NoText) (.type "BaseException") = some true)
    (xs_NoText : PySem.W.subIn K (.ref C_NoText) (.ref C_NoText) = some true) (x1_NoText : PySem.W.findIn K (.ref C_NoText) "__getattribute__" = some (some (.builtin "BaseException.__getattribute__"))) (x2_NoText : PySem.W.findIn K (.ref C_NoText) "__getattr__" = some none) (x4_NoText : PySem.W.hasDictIn K C_NoText = true) (x5_NoText : PySem.W.findIn K (.ref C_NoText) "__class__" = some (some (.builtin "object.__class__"))) (x6_NoText : PySem.W.specialIn K (.builtin "object.__class__") "__get__" = some (some (.builtin "getset_descriptor.__get__"))) (x7_NoText : PySem.W.takesIn K (.builtin "object.__class__") = some true) (x8_NoText : PySem.W.mroIn K C_NoText (.type "object") = some true)
    (n1_NoText : (Value.ref C_NoText == Value.ref C_NoYard) = false) (y1_NoText : PySem.W.subIn K (.ref C_NoText) (.ref C_NoYard) = some false)
    (n2_NoText : (Value.ref C_NoText == Value.ref C_NoTumble) = false) (y2_NoText : PySem.W.subIn K (.ref C_NoText) (.ref C_NoTumble) = some false)
    (n3_NoText : (Value.ref C_NoText == Value.ref C_NoRest) = false) (y3_NoText : PySem.W.subIn K (.ref C_NoText) (.ref C_NoRest) = some false)
    (n4_NoText : (Value.ref C_NoText == Value.ref C_NotLasting) = false) (y4_NoText : PySem.W.subIn K (.ref C_NoText) (.ref C_NotLasting) = some false)
    (yS_NoText : PySem.W.subIn K (.ref C_NoText) (.ref C_SandError) = some true) (yV_NoText : PySem.W.subIn K (.ref C_NoText) (.type "ValueError") = some true)
    (hb_NoText_NoText : PySem.W.subIn K (.ref C_NoText) (.type "BaseException") = some true) (hs_NoText_NoText : PySem.W.subIn K (.ref C_NoText) (.ref C_NoText) = some true)
    : ∃ fd : FuncData, (∀ (s : Shared) (v : Value), BindsTo s fd ⟨[v], []⟩ [("_law_script", v)]) ∧ ∀ base : Heap, K.In base → base.Ns mainGlobals mg → FnOk l.prog w K mg base CX0 6 fa fd ["_law_script"] (spL K (Dn.runF 1 7 Dg.b_P_law)) := by
  have d__law_drawn : DfK K "_law_drawn" s__law_drawn := ⟨f0, a0, _, _, _, _, _, _, _, _, _, l0, c0, k0⟩
  have d__law_yard : DfK K "_law_yard" s__law_yard := ⟨f1, a1, _, _, _, _, _, _, _, _, _, l1, c1, k1⟩
  have d__law_written : DfK K "_law_written" s__law_written := ⟨f2, a2, _, _, _, _, _, _, _, _, _, l2, c2, k2⟩
  have d__law_cell_at : DfK K "_law_cell_at" s__law_cell_at := ⟨f3, a3, _, _, _, _, _, _, _, _, _, l3, c3, k3⟩
  have d__law_mixed : DfK K "_law_mixed" s__law_mixed := ⟨f4, a4, _, _, _, _, _, _, _, _, _, l4, c4, k4⟩
  have d_number_of : DfK K "number_of" s_number_of := ⟨f5, a5, _, _, _, _, _, _, _, _, _, l5, c5, k5⟩
  have d_is_number : DfK K "is_number" s_is_number := ⟨f6, a6, _, _, _, _, _, _, _, _, _, l6, c6, k6⟩
  have d_come_to : DfK K "come_to" s_come_to := ⟨f7, a7, _, _, _, _, _, _, _, _, _, l7, c7, k7⟩
  have d_is_link : DfK K "is_link" s_is_link := ⟨f8, a8, _, _, _, _, _, _, _, _, _, l8, c8, k8⟩
  have d_is_yard : DfK K "is_yard" s_is_yard := ⟨f9, a9, _, _, _, _, _, _, _, _, _, l9, c9, k9⟩
  have d_yard_words : DfK K "yard_words" s_yard_words := ⟨f10, a10, _, _, _, _, _, _, _, _, _, l10, c10, k10⟩
  have d_read : DfK K "read" s_read := ⟨f11, a11, _, _, _, _, _, _, _, _, _, l11, c11, k11⟩
  have d__law_found : DfK K "_law_found" s__law_found := ⟨f12, a12, _, _, _, _, _, _, _, _, _, l12, c12, k12⟩
  have d__law_changed : DfK K "_law_changed" s__law_changed := ⟨f13, a13, _, _, _, _, _, _, _, _, _, l13, c13, k13⟩
  have d__law_number : DfK K "_law_number" s__law_number := ⟨f14, a14, _, _, _, _, _, _, _, _, _, l14, c14, k14⟩
  have d__law_is_link : DfK K "_law_is_link" s__law_is_link := ⟨f15, a15, _, _, _, _, _, _, _, _, _, l15, c15, k15⟩
  have d__law_is_yard : DfK K "_law_is_yard" s__law_is_yard := ⟨f16, a16, _, _, _, _, _, _, _, _, _, l16, c16, k16⟩
  have d_law : DfK K "law" s_law := ⟨f17, a17, _, _, _, _, _, _, _, _, _, l17, c17, k17⟩
  have T : Bt K (fun x => if x = "NoText" then .ref C_NoText else .none) mg := ⟨⟨C_NoText, ⟨PySem.W.mg_of X G e_NoText, rk_NoText, rq_NoText, rs_NoText, tc_NoText⟩, rfl⟩, ⟨C_NoText, _, _, _, _, _, PySem.W.mg_of X G e_NoText, rfl, exm_own rs_NoText ic_NoText tc_NoText xs_NoText, ⟨x1_NoText, x2_NoText, rs_NoText, x4_NoText, x5_NoText, x6_NoText, x7_NoText, x8_NoText⟩, ⟨kit_no n1_NoText ic_NoYard tc_NoYard y1_NoText, kit_no n2_NoText ic_NoTumble tc_NoTumble y2_NoText, kit_no n3_NoText ic_NoRest tc_NoRest y3_NoText, kit_no n4_NoText ic_NotLasting tc_NotLasting y4_NoText, kit_yes ic_SandError tc_SandError yS_NoText, kit_val yV_NoText⟩, PySem.W.mg_of X G e_NoYard, PySem.W.mg_of X G e_NoTumble, PySem.W.mg_of X G e_NoRest, PySem.W.mg_of X G e_NotLasting, PySem.W.mg_of X G e_SandError⟩, ⟨C_NoText, C_NoText, PySem.W.mg_of X G e_NoText, rfl, exm_sub hb_NoText_NoText ic_NoText tc_NoText hs_NoText_NoText⟩, PySem.W.mg_none_of X G z_ValueError, PySem.W.mg_none_of X G z_all, PySem.W.mg_none_of X G z_any, PySem.W.mg_none_of X G z_bool, PySem.W.mg_none_of X G z_int, PySem.W.mg_none_of X G z_isinstance, PySem.W.mg_none_of X G z_len, PySem.W.mg_none_of X G z_max, PySem.W.mg_none_of X G z_min, PySem.W.mg_none_of X G z_range, PySem.W.mg_none_of X G z_sorted, PySem.W.mg_none_of X G z_str, PySem.W.mg_none_of X G z_tuple, PySem.W.mg_none_of X G z_zip, ⟨_, PySem.W.mg_of X G v_FIGURES, ⟨_, rfl⟩⟩, ⟨_, PySem.W.mg_of X G v_LINKS, ⟨_, rfl⟩⟩, ⟨_, PySem.W.mg_of X G v_PLACES, ⟨_, rfl⟩⟩⟩
  refine law_end (x := "law") (st := s_law) (cl := (fun x => if x = "NoText" then .ref C_NoText else .none)) (g := Dn.runF 1 7 Dg.b_P_law) hfa (d_law.df X G) (fun f fd F s v => ?_) (fun base _ _ f fd F => ?_)
  · obtain ⟨oc, od, kV, doc, pm, an, cdv, ct, osl, rfl, lk, hcd⟩ := F.ex
    exact .of_eq rfl
  · have c__law_drawn : Cal l.prog w K mg base (fun x => if x = "NoText" then .ref C_NoText else .none) CX0 "_law_drawn" 1 2 Dg.L_drawn := ok__law_drawn (d__law_drawn.df X G) T
    have c__law_yard : Cal l.prog w K mg base (fun x => if x = "NoText" then .ref C_NoText else .none) CX0 "_law_yard" 2 3 Dg.L_yard := ok__law_yard (d__law_yard.df X G) T c__law_drawn
    have c__law_written : Cal l.prog w K mg base (fun x => if x = "NoText" then .ref C_NoText else .none) CX0 "_law_written" 1 1 Dg.L_written := ok__law_written (d__law_written.df X G) T 
    have c__law_cell_at : Cal l.prog w K mg base (fun x => if x = "NoText" then .ref C_NoText else .none) CX0 "_law_cell_at" 1 2 Dg.L_cell_at := ok__law_cell_at (d__law_cell_at.df X G) T 
    have c__law_mixed : Cal l.prog w K mg base (fun x => if x = "NoText" then .ref C_NoText else .none) CX0 "_law_mixed" 2 2 Dg.L_mixed := ok__law_mixed (d__law_mixed.df X G) T c__law_cell_at
    have c_number_of : Cal l.prog w K mg base (fun x => if x = "NoText" then .ref C_NoText else .none) (L2N.CX l.prog w) "number_of" 1 1 Dg.P_number_of := ok_number_of (d_number_of.df X G) T 
    have c_is_number : Cal l.prog w K mg base (fun x => if x = "NoText" then .ref C_NoText else .none) CX0 "is_number" 1 3 Dg.P_is_number := ok_is_number (d_is_number.df X G) T 
    have c_come_to : Cal l.prog w K mg base (fun x => if x = "NoText" then .ref C_NoText else .none) CX0 "come_to" 1 1 Dg.P_come_to := ok_come_to (d_come_to.df X G) T 
    have c_is_link : Cal l.prog w K mg base (fun x => if x = "NoText" then .ref C_NoText else .none) CX0 "is_link" 2 2 Dg.P_is_link := ok_is_link (d_is_link.df X G) T c_is_number
    have c_is_yard : Cal l.prog w K mg base (fun x => if x = "NoText" then .ref C_NoText else .none) CX0 "is_yard" 3 1 Dg.P_is_yard := ok_is_yard (d_is_yard.df X G) T c_is_number c_is_link c_come_to
    have c_yard_words : Cal l.prog w K mg base (fun x => if x = "NoText" then .ref C_NoText else .none) CX0 "yard_words" 1 1 Dg.P_yard_words := ok_yard_words (d_yard_words.df X G) T 
    have c_read : Cal l.prog w K mg base (fun x => if x = "NoText" then .ref C_NoText else .none) (L2N.CX l.prog w) "read" 4 1 Dg.P_read := ok_read (d_read.df X G) T c_number_of c_yard_words c_is_yard
    have c__law_found : Cal l.prog w K mg base (fun x => if x = "NoText" then .ref C_NoText else .none) CX0 "_law_found" 5 1 Dg.L_found := ok__law_found (d__law_found.df X G) T c_read
    have c__law_changed : Cal l.prog w K mg base (fun x => if x = "NoText" then .ref C_NoText else .none) CX0 "_law_changed" 1 2 Dg.L_changed := ok__law_changed (d__law_changed.df X G) T 
    have c__law_number : Cal l.prog w K mg base (fun x => if x = "NoText" then .ref C_NoText else .none) CX0 "_law_number" 1 3 Dg.L_number := ok__law_number (d__law_number.df X G) T 
    have c__law_is_link : Cal l.prog w K mg base (fun x => if x = "NoText" then .ref C_NoText else .none) CX0 "_law_is_link" 2 2 Dg.L_is_link := ok__law_is_link (d__law_is_link.df X G) T c__law_number
    have c__law_is_yard : Cal l.prog w K mg base (fun x => if x = "NoText" then .ref C_NoText else .none) CX0 "_law_is_yard" 3 1 Dg.L_is_yard := ok__law_is_yard (d__law_is_yard.df X G) T c__law_number c__law_is_link
    exact fk_law F T c__law_yard c__law_mixed c__law_written c__law_changed c__law_drawn c__law_found c__law_is_yard
end Wk
open PySem PySem.W PyProof.Rows
set_option maxHeartbeats 0 in
theorem PySem.Challenge.cw_sandyard_k03_whole_read_holds : PySem.Challenge.rw_sandyard_k03_whole_read.Holds := by
  w_on; o_law; k_head; (case hw => w_witness2)
  k_fill
  refine L2.walk_of (l := PySem.Challenge.rw_sandyard_k03_whole_read) (n := 63) (k := 6) (x := "_law_script") (CX := fun _ => L2.CX0) (sp := fun w => Dw.spL _ (Dn.runF 1 7 Dg.b_P_law)) rfl (by decide) rfl ⟨rfl, by decide, by decide⟩ (fun w h Y => PySem.W.kIn_of Y) ?F (fun _ _ a ns hl _ hS => Dw.law_sp hS (Wk.law_true ns hl)) (fun _ _ _ _ _ h => h)
  case F =>
    intro w mg fa h KX G hmg
    refine' Wk.all_mk KX G hmg ?a0 ?l0 ?c0 ?k0 ?a1 ?l1 ?c1 ?k1 ?a2 ?l2 ?c2 ?k2 ?a3 ?l3 ?c3 ?k3 ?a4 ?l4 ?c4 ?k4 ?a5 ?l5 ?c5 ?k5 ?a6 ?l6 ?c6 ?k6 ?a7 ?l7 ?c7 ?k7 ?a8 ?l8 ?c8 ?k8 ?a9 ?l9 ?c9 ?k9 ?a10 ?l10 ?c10 ?k10 ?a11 ?l11 ?c11 ?k11 ?a12 ?l12 ?c12 ?k12 ?a13 ?l13 ?c13 ?k13 ?a14 ?l14 ?c14 ?k14 ?a15 ?l15 ?c15 ?k15 ?a16 ?l16 ?c16 ?k16 ?a17 ?l17 ?c17 ?k17 ?z_ValueError ?z_all ?z_any ?z_bool ?z_int ?z_isinstance ?z_len ?z_max ?z_min ?z_range ?z_sorted ?z_str ?z_tuple ?z_zip ?v_FIGURES ?v_LINKS ?v_PLACES ?e_NoRest ?ic_NoRest ?tc_NoRest ?e_NoText ?ic_NoText ?tc_NoText ?e_NoTumble ?ic_NoTumble ?tc_NoTumble ?e_NoYard ?ic_NoYard ?tc_NoYard ?e_NotLasting ?ic_NotLasting ?tc_NotLasting ?e_SandError ?ic_SandError ?tc_SandError ?rk_NoText ?rq_NoText ?rs_NoText ?xs_NoText ?x1_NoText ?x2_NoText ?x4_NoText ?x5_NoText ?x6_NoText ?x7_NoText ?x8_NoText ?n1_NoText ?y1_NoText ?n2_NoText ?y2_NoText ?n3_NoText ?y3_NoText ?n4_NoText ?y4_NoText ?yS_NoText ?yV_NoText ?hb_NoText_NoText ?hs_NoText_NoText
    (case a0 => k_is)
    (case l0 => k_is)
    (case c0 => k_is)
    (case k0 => k_is)
    (case a1 => k_is)
    (case l1 => k_is)
    (case c1 => k_is)
    (case k1 => k_is)
    (case a2 => k_is)
    (case l2 => k_is)
    (case c2 => k_is)
    (case k2 => k_is)
    (case a3 => k_is)
    (case l3 => k_is)
    (case c3 => k_is)
    (case k3 => k_is)
    (case a4 => k_is)
    (case l4 => k_is)
    (case c4 => k_is)
    (case k4 => k_is)
    (case a5 => k_is)
    (case l5 => k_is)
    (case c5 => k_is)
    (case k5 => k_is)
    (case a6 => k_is)
    (case l6 => k_is)
    (case c6 => k_is)
    (case k6 => k_is)
    (case a7 => k_is)
    (case l7 => k_is)
    (case c7 => k_is)
    (case k7 => k_is)
    (case a8 => k_is)
    (case l8 => k_is)
    (case c8 => k_is)
    (case k8 => k_is)
    (case a9 => k_is)
    (case l9 => k_is)
    (case c9 => k_is)
    (case k9 => k_is)
    (case a10 => k_is)
    (case l10 => k_is)
    (case c10 => k_is)
    (case k10 => k_is)
    (case a11 => k_is)
    (case l11 => k_is)
    (case c11 => k_is)
    (case k11 => k_is)
    (case a12 => k_is)
    (case l12 => k_is)
    (case c12 => k_is)
    (case k12 => k_is)
    (case a13 => k_is)
    (case l13 => k_is)
    (case c13 => k_is)
    (case k13 => k_is)
    (case a14 => k_is)
    (case l14 => k_is)
    (case c14 => k_is)
    (case k14 => k_is)
    (case a15 => k_is)
    (case l15 => k_is)
    (case c15 => k_is)
    (case k15 => k_is)
    (case a16 => k_is)
    (case l16 => k_is)
    (case c16 => k_is)
    (case k16 => k_is)
    (case a17 => k_is)
    (case l17 => k_is)
    (case c17 => k_is)
    (case k17 => k_is)
    (case z_ValueError => k_is)
    (case z_all => k_is)
    (case z_any => k_is)
    (case z_bool => k_is)
    (case z_int => k_is)
    (case z_isinstance => k_is)
    (case z_len => k_is)
    (case z_max => k_is)
    (case z_min => k_is)
    (case z_range => k_is)
    (case z_sorted => k_is)
    (case z_str => k_is)
    (case z_tuple => k_is)
    (case z_zip => k_is)
    (case v_FIGURES => k_is)
    (case v_LINKS => k_is)
    (case v_PLACES => k_is)
    (case e_NoRest => k_is)
    (case ic_NoRest => k_is)
    (case tc_NoRest => k_is)
    (case e_NoText => k_is)
    (case ic_NoText => k_is)
    (case tc_NoText => k_is)
    (case e_NoTumble => k_is)
    (case ic_NoTumble => k_is)
    (case tc_NoTumble => k_is)
    (case e_NoYard => k_is)
    (case ic_NoYard => k_is)
    (case tc_NoYard => k_is)
    (case e_NotLasting => k_is)
    (case ic_NotLasting => k_is)
    (case tc_NotLasting => k_is)
    (case e_SandError => k_is)
    (case ic_SandError => k_is)
    (case tc_SandError => k_is)
    (case rk_NoText => k_is)
    (case rq_NoText => k_exc)
    (case rs_NoText => k_is)
    (case xs_NoText => first | rfl | k_is)
    (case x1_NoText => k_is)
    (case x2_NoText => k_is)
    (case x4_NoText => k_is)
    (case x5_NoText => k_is)
    (case x6_NoText => k_is)
    (case x7_NoText => k_is)
    (case x8_NoText => k_is)
    (case n1_NoText => first | rfl | k_is)
    (case y1_NoText => k_is)
    (case n2_NoText => first | rfl | k_is)
    (case y2_NoText => k_is)
    (case n3_NoText => first | rfl | k_is)
    (case y3_NoText => k_is)
    (case n4_NoText => first | rfl | k_is)
    (case y4_NoText => k_is)
    (case yS_NoText => k_is)
    (case yV_NoText => k_is)
    (case hb_NoText_NoText => k_is)
    (case hs_NoText_NoText => first | rfl | k_is)

