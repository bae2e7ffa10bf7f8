import PyProof.Rows.All
import Wide.All
import OpenK.AllK
import Wide.FinOn
import HandS.ForMost
import HandS.ForExc
import HandS.TupAny
import HandS.TupMul
import HandS.Conv
import HandS.IsInst
import HandS.Zip
import HandS.Text
import KE.DataAny
import KE.DataMinMax
import KE.SortData
import KE.KRevSl
import KE.DatumOrd
import KE.DataCmp
import KE.DataEq
import KE.GoesMore
import KE.GoesComp
import KE.GoesEnum
import PyProof.EnumMake
import KE.KTupSum
import KE.GoesZip
import HandS.HotCalls
import HandS.ExcIs
import PyProof.StrOps2
import HandS.ExcCtx
import HandS.WordsExc
import HandS.Comp
import HandS.Conv
import HandS.Dict
import HandS.TupSets
import KE.KDictSum
import PySem.Challenge.RW_sandyard_k20_burns
set_option linter.all false
set_option Elab.async false
set_option maxRecDepth 99999
set_option maxHeartbeats 4400000
/-! Dn: what the defs of a text compute, over plain data alone (no heap). -/
namespace Dn
open PySem

abbrev D := PyData
/-- an answer: a value, or an exception's class -/
inductive Rs (α : Type) where
  | ok (a : α)
  | exc (c : Str)
/-- none: not told -/
abbrev M (α : Type) := Option (Rs α)
def bnd {α β : Type} (x : M α) (k : α → M β) : M β := match x with
  | some (.ok a) => k a
  | some (.exc c) => some (.exc c)
  | none => none
@[simp] theorem bnd_ok {α β : Type} (a : α) (k : α → M β) : bnd (some (.ok a)) k = k a := rfl
@[simp] theorem bnd_exc {α β : Type} (c : Str) (k : α → M β) : bnd (some (.exc c)) k = some (.exc c) := rfl
@[simp] theorem bnd_none {α β : Type} (k : α → M β) : bnd none k = none := rfl
def ret {α : Type} (a : α) : M α := some (.ok a)
def lft {α : Type} (x : Option α) : M α := x.map .ok
@[simp] theorem lft_some {α : Type} (a : α) : lft (some a) = some (.ok a) := rfl
@[simp] theorem lft_none {α : Type} : lft (none : Option α) = none := rfl

inductive Sl where
  | dat (d : D)
  | own (ds : List D)
  | ownT (kvs : List (List Int × D))
  | frzT (kvs : List (List Int × D))
abbrev Env := List (Option Sl)
inductive SOut where
  | nx (ρ : Env) | rt (d : D) | bk (ρ : Env) | ct (ρ : Env) | exc (c : Str)
abbrev EF := Env → M D
abbrev AF := Env → M (List D)
abbrev TF := Env → M Bool
abbrev SF := Env → Option SOut
abbrev GF := D → Env → Option Env
abbrev FF := List D → M D

/-! ### operators -/
def addD : D → D → Option D
  | .int a, .int b => some (.int (a + b))
  | .str a, .str b => if a.length + b.length ≤ sizeLine then some (.str (a ++ b)) else none
  | .tuple a, .tuple b => if a.length + b.length ≤ sizeLine then some (.tuple (a ++ b)) else none
  | .list a, .list b => if a.length + b.length ≤ sizeLine then some (.list (a ++ b)) else none
  | _, _ => none
def subD : D → D → Option D
  | .int a, .int b => some (.int (a - b))
  | _, _ => none
def smallI (i : Int) : Bool := decide (-(2 ^ 64) < i) && decide (i < 2 ^ 64)
def repL {α : Type} (k : Nat) (xs : List α) : List α := (List.replicate k xs).flatten
def mulD : D → D → Option D
  | .int a, .int b => if smallI a || smallI b then some (.int (a * b)) else none
  | .tuple a, .int k => if 1 ≤ k ∧ k ≤ 1000 ∧ a.length ≤ 1000 ∧ a ≠ [] then some (.tuple (repL k.toNat a)) else none
  | _, _ => none
def modD : D → D → Option D
  | .int a, .int b => if 0 < b then some (.int (a % b)) else none
  | _, _ => none
def fdivD : D → D → Option D
  | .int a, .int b => if 0 < b ∧ b < 1073741824 then some (.int (a / b)) else none
  | _, _ => none
def powD : D → D → Option D
  | .int a, .int b => if 0 ≤ b ∧ b ≤ 1000 ∧ a.natAbs < 2 ^ 64 then some (.int (a ^ b.toNat)) else none
  | _, _ => none
def negD : D → Option D
  | .int a => some (.int (-a))
  | _ => none
/-- data that the comparisons take -/
def okD (d : D) : Bool := d.plain && decide (d.depth ≤ 50)
def eqD (a b : D) : Option D := if okD a && okD b then some (.bool (PyData.eqv a b)) else none
def neD (a b : D) : Option D := if okD a && okD b then some (.bool (!PyData.eqv a b)) else none
def cmpOk (a b : D) : Bool := PySem.W.alike a b && decide (min a.depth b.depth ≤ 50) && (match a with | .none => false | _ => true)
def ltD (a b : D) : Option D := if cmpOk a b then some (.bool (PySem.W.dataLt a b)) else none
def gtD (a b : D) : Option D := if cmpOk a b then some (.bool (PySem.W.dataLt b a)) else none
def leD (a b : D) : Option D := if cmpOk a b then some (.bool (!PySem.W.dataLt b a)) else none
def geD (a b : D) : Option D := if cmpOk a b then some (.bool (!PySem.W.dataLt a b)) else none
def inD : D → D → Option D
  | x, .list xs => if PyData.plainAll xs && okD x then some (.bool (xs.any fun y => PyData.eqv y x)) else none
  | x, .tuple xs => if PyData.plainAll xs && okD x then some (.bool (xs.any fun y => PyData.eqv y x)) else none
  | .str i, .str j => some (.bool (!(Builtin.Str.occurrences j i 0 j.length 1).isEmpty))
  | _, _ => none
def notD : D → Option D
  | .bool b => some (.bool (!b))
  | _ => none
def inN (x y : D) : Option D := (inD x y).bind notD
def isNonD : D → Option D
  | .none => some (.bool true)
  | .bool _ | .int _ | .str _ | .list _ | .tuple _ => some (.bool false)
  | _ => none
def seqOf : D → Option (List D)
  | .list xs => some xs
  | .tuple xs => some xs
  | _ => none
def lstOf : D → Option (List D)
  | .list xs => some xs
  | _ => none
def lenD : D → Option D
  | .list xs => some (.int xs.length)
  | .tuple xs => some (.int xs.length)
  | .str x => if x.length ≤ sizeLine then some (.int x.length) else none
  | _ => none
def intsOf : List D → Option (List Int)
  | [] => some []
  | .int i :: r => (intsOf r).map (i :: ·)
  | _ => none
def boolsOf : List D → Option (List Bool)
  | [] => some []
  | .bool i :: r => (boolsOf r).map (i :: ·)
  | _ => none
def strsOf : List D → Option (List Str)
  | [] => some []
  | .str i :: r => (strsOf r).map (i :: ·)
  | _ => none
def sumD (d : D) : Option D := (lstOf d).bind fun xs => (intsOf xs).map fun ns => .int ns.sum
def allD (d : D) : Option D := (lstOf d).bind fun xs => (boolsOf xs).map fun bs => .bool (bs.all id)
def anyD (d : D) : Option D := (lstOf d).bind fun xs => (boolsOf xs).map fun bs => .bool (bs.any id)
def maxL : List Int → Option Int
  | [] => none
  | x :: r => some (r.foldl max x)
def minL : List Int → Option Int
  | [] => none
  | x :: r => some (r.foldl min x)
def max1D (d : D) : Option D := (lstOf d).bind fun xs => (intsOf xs).bind fun ns => (maxL ns).map .int
def min1D (d : D) : Option D := (lstOf d).bind fun xs => (intsOf xs).bind fun ns => (minL ns).map .int
def max2D : D → D → Option D
  | .int a, .int b => some (.int (if b > a then b else a))
  | _, _ => none
def min2D : D → D → Option D
  | .int a, .int b => some (.int (if b < a then b else a))
  | _, _ => none
def intD : D → Option D
  | .int a => some (.int a)
  | .bool b => some (.int (if b then 1 else 0))
  | .str x => if x.length ≤ 640 then (PySem.intText? x).map .int else none
  | _ => none
def strD : D → Option D
  | .int a => if a.natAbs.log2 < 1920 then some (.str (toString a)) else none
  | _ => none
def tupD (d : D) : Option D := (seqOf d).map .tuple
def lstD (d : D) : Option D := (seqOf d).map .list
/-- 0 int, 1 bool, 2 tuple, 3 str -/
def isiD (k : Nat) : D → Option D
  | .none => some (.bool false)
  | .bool _ => some (.bool (k == 0 || k == 1))
  | .int _ => some (.bool (k == 0))
  | .str _ => some (.bool (k == 3))
  | .list _ => some (.bool false)
  | .tuple _ => some (.bool (k == 2))
  | .dict _ => none
def ixNat (n : Nat) (i : Int) : Option Nat := if 0 ≤ i then (if i < n then some i.toNat else none) else if -(n : Int) ≤ i then some (i + n).toNat else none
def ixD : D → D → Option D
  | .list xs, .int i => (ixNat xs.length i).bind fun j => xs[j]?
  | .tuple xs, .int i => (ixNat xs.length i).bind fun j => xs[j]?
  | .str z, .int i => if z.length ≤ sizeLine then (ixNat z.cps.toList.length i).bind fun j => z.cps.toList[j]?.map fun c => .str ⟨#[c]⟩ else none
  | _, _ => none
/-- a slice's end -/
def sIx (n d : Nat) (o : Option Int) : Nat := HT.sIx n d o
def cutL {α : Type} (xs : List α) (lo hi : Option Int) : List α := (xs.drop (sIx xs.length 0 lo)).take (sIx xs.length xs.length hi - sIx xs.length 0 lo)
def cutD (lo hi : Option Int) : D → Option D
  | .list xs => some (.list (cutL xs lo hi))
  | .tuple xs => some (.tuple (cutL xs lo hi))
  | .str z => if z.length ≤ sizeLine then some (.str (L2.cutS z lo hi)) else none
  | _ => none
def revD : D → Option D
  | .tuple xs => some (.tuple xs.reverse)
  | _ => none
/-- sorted: of like tuples -/
def sortOk (xs : List D) : Bool := (xs.all fun x => xs.all fun y => PySem.W.alike x y) && (xs.all fun x => match x with | .tuple (_ :: _) => true | _ => false) && decide (PyData.depthAll xs ≤ 50) && decide (xs.length ≤ 1000)
def sortL (xs : List D) : List D := xs.mergeSort fun a b => !PySem.W.dataLt b a
def sortD (d : D) : Option D := (lstOf d).bind fun xs => if sortOk xs then some (.list (sortL xs)) else none
def rgL (a b : Int) : List D := (List.range (b - a).toNat).map fun i => .int (a + (i : Nat))
def rgOk (i : Int) : Bool := decide (-1000000 ≤ i) && decide (i ≤ 1000000)
def rangeD : D → D → Option (List D)
  | .int a, .int b => if rgOk a && rgOk b then some (rgL a b) else none
  | _, _ => none
def lrangeD (a b : D) : Option D := (rangeD a b).map .list

/-! ### expressions -/
def eVar (i : Nat) : EF := fun ρ => match ρ[i]? with
  | some (some (.dat d)) => ret d
  | _ => none
def eVarW (i : Nat) : EF := fun ρ => match ρ[i]? with
  | some (some (.dat d)) => ret d
  | some (some (.own ds)) => ret (.list ds)
  | _ => none
def eC (d : D) : EF := fun _ => ret d
def e1 (g : D → Option D) (fa : EF) : EF := fun ρ => bnd (fa ρ) fun a => lft (g a)
def e2 (g : D → D → Option D) (fa fb : EF) : EF := fun ρ => bnd (fa ρ) fun a => bnd (fb ρ) fun b => lft (g a b)
def boolD : D → Option Bool
  | .bool b => some b
  | _ => none
def asB (fa : EF) : TF := fun ρ => bnd (fa ρ) fun a => lft (boolD a)
def eAnd (fa fb : EF) : EF := fun ρ => bnd (asB fa ρ) fun c => if c = true then fb ρ else ret (.bool false)
def eOr (fa fb : EF) : EF := fun ρ => bnd (asB fa ρ) fun c => if c = true then ret (.bool true) else fb ρ
/-- a chain of two comparisons -/
def eChain (g h : D → D → Option D) (fa fb fc : EF) : EF := fun ρ => bnd (fa ρ) fun a => bnd (fb ρ) fun b => bnd (lft ((g a b).bind boolD)) fun c => if c = true then bnd (fc ρ) fun d => lft (h b d) else ret (.bool false)
def tAndF (fa fb : TF) : TF := fun ρ => bnd (fa ρ) fun c => if c = true then fb ρ else ret false
def tOrF (fa fb : TF) : TF := fun ρ => bnd (fa ρ) fun c => if c = true then ret true else fb ρ
def tNotF (fa : TF) : TF := fun ρ => bnd (fa ρ) fun c => ret (!c)
def tYesF : TF := fun _ => ret true
def aNil : AF := fun _ => ret []
def aCons (fa : EF) (fr : AF) : AF := fun ρ => bnd (fa ρ) fun a => bnd (fr ρ) fun r => ret (a :: r)
def eTup (fs : AF) : EF := fun ρ => bnd (fs ρ) fun ds => if ds.length ≤ 1000 then ret (.tuple ds) else none
def eLst (fs : AF) : EF := fun ρ => bnd (fs ρ) fun ds => if ds.length ≤ 1000 then ret (.list ds) else none
def eCall (g : FF) (fs : AF) : EF := fun ρ => bnd (fs ρ) g
/-- [..] * n, a new list -/
def eRep (fa fk : EF) : EF := fun ρ => bnd (fa ρ) fun a => bnd (fk ρ) fun k => lft (match a, k with
  | .list xs, .int k => if 0 ≤ k ∧ k ≤ 1000 ∧ xs.length ≤ 1000 then some (.list (repL k.toNat xs)) else none
  | _, _ => none)
/-- a slice's end -/
def oNo : Env → M (Option Int) := fun _ => ret none
def intOf : D → Option Int
  | .int i => some i
  | _ => none
def oInt (fa : EF) : Env → M (Option Int) := fun ρ => bnd (fa ρ) fun a => bnd (lft (intOf a)) fun i => ret (some i)
def eCut (fa : EF) (fl fh : Env → M (Option Int)) : EF := fun ρ => bnd (fa ρ) fun a => bnd (fl ρ) fun l => bnd (fh ρ) fun h => lft (cutD l h a)
def eJoin (fa fb : EF) : EF := fun ρ => bnd (fa ρ) fun a => bnd (fb ρ) fun b => lft (match a, b with
  | .str z, .list xs => (strsOf xs).bind fun ys => if (ys.map fun y => y.length).sum + ys.length * z.length ≤ 1000000 then some (.str (Txt.join z ys)) else none
  | _, _ => none)

/-! ### what is walked -/
def iSeq (fa : EF) : AF := fun ρ => bnd (fa ρ) fun a => lft (seqOf a)
def iRng1 (fa : EF) : AF := fun ρ => bnd (fa ρ) fun a => lft (rangeD (.int 0) a)
def iRng2 (fa fb : EF) : AF := fun ρ => bnd (fa ρ) fun a => bnd (fb ρ) fun b => lft (rangeD a b)
def zipL : List D → List D → List D
  | x :: xs, y :: ys => .tuple [x, y] :: zipL xs ys
  | _, _ => []
/-- zip of two lists, of two tuples -/
def zipD : D → D → Option (List D)
  | .list xs, .list ys => some (zipL xs ys)
  | .tuple xs, .tuple ys => some (zipL xs ys)
  | _, _ => none
def iZip (fa fb : EF) : AF := fun ρ => bnd (fa ρ) fun a => bnd (fb ρ) fun b => lft (zipD a b)
def enumL : Nat → List D → List D
  | _, [] => []
  | k, x :: xs => .tuple [.int k, x] :: enumL (k + 1) xs
def enumLD : D → Option (List D)
  | .list xs => some (enumL 0 xs)
  | _ => none
def iEnumL (fa : EF) : AF := fun ρ => bnd (fa ρ) fun a => lft (enumLD a)

/-! ### targets -/
def gName (i : Nat) : GF := fun d ρ => some (ρ.set i (some (.dat d)))
def setAll : List Nat → List D → Env → Option Env
  | [], [], ρ => some ρ
  | i :: is, d :: ds, ρ => setAll is ds (ρ.set i (some (.dat d)))
  | _, _, _ => none
def gTup (is : List Nat) : GF := fun d ρ => match d with
  | .tuple ds => setAll is ds ρ
  | _ => none

/-! ### comprehensions -/
def wipe (ρ : Env) : List Nat → Env
  | [] => ρ
  | v :: vs => (wipe ρ vs).set v none
def compL (g : GF) (t : TF) (f : EF) (ρ : Env) : List D → M (List D)
  | [] => ret []
  | d :: ds => match g d ρ with
    | none => none
    | some ρ1 => match t ρ1 with
      | some (.ok true) => (match f ρ1 with
        | some (.ok y) => bnd (compL g t f ρ ds) fun r => ret (y :: r)
        | _ => none)
      | some (.ok false) => compL g t f ρ ds
      | _ => none
def eComp (it : AF) (g : GF) (t : TF) (f : EF) (vs : List Nat) : EF := fun ρ => bnd (it ρ) fun ds => if ds.length ≤ 1000000 then bnd (compL g t f (wipe ρ vs) ds) fun r => ret (.list r) else none

/-! ### statements -/
def sNx : SF := fun ρ => some (.nx ρ)
def sSeq (a b : SF) : SF := fun ρ => match a ρ with
  | some (.nx ρ') => b ρ'
  | x => x
def bS {α : Type} (x : M α) (k : α → Option SOut) : Option SOut := match x with
  | some (.ok a) => k a
  | some (.exc c) => some (.exc c)
  | none => none
@[simp] theorem bS_ok {α : Type} (a : α) (k : α → Option SOut) : bS (some (.ok a)) k = k a := rfl
@[simp] theorem bS_exc {α : Type} (c : Str) (k : α → Option SOut) : bS (some (.exc c)) k = some (.exc c) := rfl
@[simp] theorem bS_none {α : Type} (k : α → Option SOut) : bS none k = none := rfl
@[simp] theorem bS_ret {α : Type} (a : α) (k : α → Option SOut) : bS (ret a) k = k a := rfl
@[simp] theorem bnd_ret {α β : Type} (a : α) (k : α → M β) : bnd (ret a) k = k a := rfl
def sIf (t : TF) (a b : SF) : SF := fun ρ => bS (t ρ) fun c => if c = true then a ρ else b ρ
def sRet (f : EF) : SF := fun ρ => bS (f ρ) fun d => some (.rt d)
/-- return a name that holds a list of one's own -/
def sRetO (i : Nat) : SF := fun ρ => match ρ[i]? with
  | some (some (.own ds)) => some (.rt (.list ds))
  | _ => none
/-- a name or names = e -/
def sAsg (g : GF) (f : EF) : SF := fun ρ => bS (f ρ) fun d => (g d ρ).map .nx
/-- name = a new list, to be changed in place -/
def sOwn (i : Nat) (f : EF) : SF := fun ρ => bS (f ρ) fun d => match d with
  | .list ds => some (.nx (ρ.set i (some (.own ds))))
  | _ => none
/-- name = another name that holds a list of one's own: both stand still from here on -/
def sMove (i j : Nat) : SF := fun ρ => match ρ[j]? with
  | some (some (.own ds)) => some (.nx ((ρ.set j (some (.dat (.list ds)))).set i (some (.dat (.list ds)))))
  | _ => none
def sApp (i : Nat) (f : EF) : SF := fun ρ => match ρ[i]? with
  | some (some (.own ds)) => bS (f ρ) fun d => if ds.length < 1000000 then some (.nx (ρ.set i (some (.own (ds ++ [d]))))) else none
  | _ => none
/-- name.append(another name with a list of one's own) -/
def sAppOwn (i j : Nat) : SF := fun ρ => match ρ[i]?, ρ[j]? with
  | some (some (.own ds)), some (some (.own es)) => if i ≠ j ∧ ds.length < 1000000 then some (.nx ((ρ.set j (some (.dat (.list es)))).set i (some (.own (ds ++ [.list es]))))) else none
  | _, _ => none
def sExt (i : Nat) (f : EF) : SF := fun ρ => match ρ[i]? with
  | some (some (.own ds)) => bS (f ρ) fun d => match d with
    | .list es => if ds.length + es.length ≤ 1000000 then some (.nx (ρ.set i (some (.own (ds ++ es))))) else none
    | _ => none
  | _ => none
/-- name[k] = e -/
def sSetIx (i : Nat) (fk f : EF) : SF := fun ρ => bS (f ρ) fun d => match ρ[i]? with
  | some (some (.own ds)) => bS (fk ρ) fun k => match k with
    | .int z => (ixNat ds.length z).map fun j => .nx (ρ.set i (some (.own (ds.set j d))))
    | _ => none
  | _ => none
def forL (g : GF) (b : SF) : List D → SF
  | [], ρ => some (.nx ρ)
  | d :: ds, ρ => match g d ρ with
    | none => none
    | some ρ1 => match b ρ1 with
      | some (.nx ρ') => forL g b ds ρ'
      | some (.ct ρ') => forL g b ds ρ'
      | some (.bk ρ') => some (.nx ρ')
      | some (.rt d) => some (.rt d)
      | some (.exc c) => some (.exc c)
      | none => none
def sFor (it : AF) (g : GF) (b : SF) : SF := fun ρ => bS (it ρ) fun ds => forL g b ds ρ
def whileN : Nat → TF → SF → SF
  | 0, _, _, _ => none
  | n + 1, c, b, ρ => bS (c ρ) fun t => if t = true then (match b ρ with
      | some (.nx ρ') => whileN n c b ρ'
      | some (.ct ρ') => whileN n c b ρ'
      | some (.bk ρ') => some (.nx ρ')
      | some (.rt d) => some (.rt d)
      | some (.exc e) => some (.exc e)
      | none => none) else some (.nx ρ)
theorem whileN_mono {c : TF} {b : SF} : ∀ {n m : Nat} {ρ : Env} {o : SOut}, whileN n c b ρ = some o → n ≤ m → whileN m c b ρ = some o
  | 0, _, _, _, h, _ => by cases h
  | n + 1, 0, _, _, _, l => absurd l (Nat.not_succ_le_zero n)
  | n + 1, m + 1, ρ, o, h, l => by
    unfold whileN at h ⊢
    cases hc : c ρ with
    | none => rw [hc] at h; cases h
    | some r =>
      rw [hc] at h
      cases r with
      | exc e => exact h
      | ok t =>
        rw [bS_ok] at h ⊢
        cases t with
        | false => exact h
        | true =>
          simp only [if_true] at h ⊢
          cases hb : b ρ with
          | none => rw [hb] at h; cases h
          | some w =>
            rw [hb] at h
            cases w with
            | nx ρ' => exact whileN_mono h (Nat.le_of_succ_le_succ l)
            | ct ρ' => exact whileN_mono h (Nat.le_of_succ_le_succ l)
            | bk ρ' => exact h
            | rt d => exact h
            | exc e => exact h
open Classical in
noncomputable def sWhile (c : TF) (b : SF) : SF := fun ρ => if h : ∃ o, ∃ n, whileN n c b ρ = some o then some h.choose else none
theorem sWhile_of {c : TF} {b : SF} {ρ : Env} {n : Nat} {o : SOut} (h : whileN n c b ρ = some o) : sWhile c b ρ = some o := by
  have hx : ∃ o, ∃ n, whileN n c b ρ = some o := ⟨o, n, h⟩
  unfold sWhile
  rw [dif_pos hx]
  obtain ⟨m, hm⟩ := hx.choose_spec
  have e1 := whileN_mono hm (Nat.le_max_left m n)
  have e2 := whileN_mono h (Nat.le_max_right m n)
  rw [e1] at e2
  exact e2
theorem of_sWhile {c : TF} {b : SF} {ρ : Env} {o : SOut} (h : sWhile c b ρ = some o) : ∃ n, whileN n c b ρ = some o := by
  unfold sWhile at h
  split at h
  · rename_i hx
    have e := Option.some.inj h
    rw [← e]
    exact hx.choose_spec
  · cases h
/-! dicts whose keys are pairs of ints -/
def putT (kvs : List (List Int × D)) (k : List Int) (d : D) : List (List Int × D) :=
  if (kvs.any fun kv => decide (kv.1 = k)) = true then kvs.map (fun kv => if kv.1 = k then (kv.1, d) else kv) else kvs ++ [(k, d)]
def getT (kvs : List (List Int × D)) (k : List Int) : Option D := (kvs.find? fun kv => decide (kv.1 = k)).map (·.2)
def sDictNew (i : Nat) : SF := fun ρ => some (.nx (ρ.set i (some (.ownT []))))
/-- name[a, b] = e -/
def sDictSet (i : Nat) (fa fb f : EF) : SF := fun ρ => bS (f ρ) fun d => match ρ[i]? with
  | some (some (.ownT kvs)) => bS (fa ρ) fun a => bS (fb ρ) fun b => match a, b with
    | .int x, .int y => if kvs.length < 1000 then some (.nx (ρ.set i (some (.ownT (putT kvs [x, y] d))))) else none
    | _, _ => none
  | _ => none
/-- name[a, b], while it is walked -/
def eDictGet (i : Nat) (fa fb : EF) : EF := fun ρ => match ρ[i]? with
  | some (some (.frzT kvs)) => bnd (fa ρ) fun a => bnd (fb ρ) fun b => lft (match a, b with
    | .int x, .int y => getT kvs [x, y]
    | _, _ => none)
  | _ => none
def noFrz (ρ : Env) : Bool := ρ.all fun s => match s with
  | some (.frzT _) => false
  | _ => true
def keysT (kvs : List (List Int × D)) : List D := kvs.map fun kv => .tuple (kv.1.map .int)
/-- for .. in name: the keys -/
def sForKeys (i : Nat) (g : GF) (b : SF) : SF := fun ρ => match ρ[i]? with
  | some (some (.ownT kvs)) => (match forL g b (keysT kvs) (ρ.set i (some (.frzT kvs))) with
    | some (.nx ρ') => if noFrz (ρ'.set i none) then some (.nx (ρ'.set i none)) else none
    | _ => none)
  | _ => none
def sExc (c : Str) : SF := fun _ => some (.exc c)
/-- a def: n parameters, N names -/
def runF (n N : Nat) (b : SF) : FF := fun ds => if ds.length = n then (match b (ds.map (fun d => some (.dat d)) ++ List.replicate (N - n) none) with
  | some (.rt d) => ret d
  | some (.nx _) => ret .none
  | some (.exc c) => some (.exc c)
  | _ => none) else none
def noX (g : FF) : FF := fun ds => match g ds with
  | some (.exc _) => none
  | x => x
/-- exceptions are not told -/
def sNoX (b : SF) : SF := fun ρ => match b ρ with
  | some (.exc _) => none
  | x => x
end Dn

set_option maxHeartbeats 4400000
namespace Dn
def enumAD : D → Option (List D)
  | .list xs => some (enumL 0 xs)
  | .tuple xs => some (enumL 0 xs)
  | _ => none
def iEnumA (fa : EF) : AF := fun ρ => bnd (fa ρ) fun a => lft (enumAD a)
end Dn

set_option maxHeartbeats 4400000
namespace Dn
def noOwn (ρ : Env) : Bool := ρ.all fun s => match s with
  | none => true
  | some (.dat _) => true
  | _ => false
/-- try: b, except c: v is given back -/
def sTry (b : SF) (c : PySem.Str) (v : D) : SF := fun ρ => if noOwn ρ = true then (match b ρ with
  | some (.exc c') => if c' = c then some (.rt v) else none
  | some (.rt d) => some (.rt d)
  | some (.nx ρ') => if noOwn ρ' = true then some (.nx ρ') else none
  | _ => none) else none
/-- an expression alone -/
def sEx (f : EF) : SF := fun ρ => bS (f ρ) fun _ => some (.nx ρ)
end Dn

set_option maxHeartbeats 4400000
namespace Dn
open PySem
/-- from here on a list of one's own stands still -/
def sFrz (i : Nat) (b : SF) : SF := fun ρ => match ρ[i]? with
  | some (some (.own ds)) => b (ρ.set i (some (.dat (.list ds))))
  | _ => none
/-- sorted: of a list, of a tuple -/
def sortAD : D → Option D
  | .list xs => if sortOk xs then some (.list (sortL xs)) else none
  | .tuple xs => if sortOk xs then some (.list (sortL xs)) else none
  | _ => none
/-- list + list, a new list -/
def catD : D → D → Option D
  | .list a, .list b => if a.length + b.length ≤ 1000000 then some (.list (a ++ b)) else none
  | _, _ => none
/-- sep.join(a list of texts) -/
def eJoin2 (fa fb : EF) : EF := fun ρ => bnd (fa ρ) fun a => match a with
  | .str z => bnd (fb ρ) fun b => lft ((lstOf b).bind fun xs => (strsOf xs).bind fun ys => if (ys.map fun y => y.length).sum + ys.length * z.length ≤ 1000000 then some (.str (Txt.join z ys)) else none)
  | _ => none
end Dn

set_option maxHeartbeats 4400000
/-! Dw: the hand layer's readings answered by plain data. -/
namespace Dw
open PySem PySem.Spec PyProof.Rows L2

/-! ### data that is tracked: tuples stand in the abstract heap itself -/
def SqT (K : PySem.W.Frag) (H : Hp) (a : Addr) (xs : List V) : Prop := H a = some (.tup xs)
theorem SqT.of {K : PySem.W.Frag} {H : Hp} {a : Addr} {xs : List V} (h : H a = some (.tup xs)) : SqT K H a xs := h
theorem SqT.l2 {K : PySem.W.Frag} {H : Hp} {a : Addr} {xs : List V} (h : SqT K H a xs) : L2.SqT K H a xs := .inl (.inl h)
instance {K : PySem.W.Frag} {H : Hp} {a : Addr} {xs : List V} : Coe (SqT K H a xs) (L2.SqT K H a xs) := ⟨SqT.l2⟩
section
variable (K : PySem.W.Frag) (H : Hp)
mutual
/-- v is the datum d, as H stands -/
inductive Dp : V → PyData → Prop
  | non : Dp .non .none
  | bl b : Dp (.bl b) (.bool b)
  | int i : Dp (.int i) (.int i)
  | str x : Dp (.str x) (.str x)
  | lst {a xs ds} (at_ : SqL K H a xs) (items : DpAll xs ds) : Dp (.ref a) (.list ds)
  | tup {a xs ds} (at_ : SqT K H a xs) (items : DpAll xs ds) : Dp (.ref a) (.tuple ds)
/-- one by one -/
inductive DpAll : List V → List PyData → Prop
  | nil : DpAll [] []
  | cons {v vs d ds} (head : Dp v d) (tail : DpAll vs ds) : DpAll (v :: vs) (d :: ds)
end
end
mutual
theorem Dp.l2 {K : PySem.W.Frag} {H : Hp} : ∀ {v : V} {d : PyData}, Dp K H v d → L2.Dp K H v d
  | _, _, .non => .non
  | _, _, .bl b => .bl b
  | _, _, .int i => .int i
  | _, _, .str x => .str x
  | _, _, .lst h a => .lst h (DpAll.l2 a)
  | _, _, .tup h a => .tup h.l2 (DpAll.l2 a)
theorem DpAll.l2 {K : PySem.W.Frag} {H : Hp} : ∀ {vs : List V} {ds : List PyData}, DpAll K H vs ds → L2.DpAll K H vs ds
  | _, _, .nil => .nil
  | _, _, .cons h a => .cons (Dp.l2 h) (DpAll.l2 a)
end
theorem Dp.reads {X : Cx} {pins : List (Addr × Obj)} {σ : L2.St} {H : Hp} {s : Shared} (I : Inv X pins σ H s) (d : PyData) (v : V) (u : Value) (h : Dp X.K H v d) (r : RelV v u) : ∃ as, Reads s.heap u d as := L2.Dp.reads I d v u h.l2 r
theorem Dp.readsAll {X : Cx} {pins : List (Addr × Obj)} {σ : L2.St} {H : Hp} {s : Shared} (I : Inv X pins σ H s) (ds : List PyData) (vs : List V) (us : List Value) (h : DpAll X.K H vs ds) (r : Vals vs us) : ∃ as, ReadsAll s.heap us ds as := L2.Dp.readsAll I ds vs us h.l2 r
/-! ### heaps: F stands still, within H -/
structure Ext (F H F' H' : Hp) : Prop where
  f : Same F F'
  s : Same F' H'
  h : Same H H'
  n : ∀ b o, F' b = some o → F b = some o ∨ H b = none ∨ ∃ xs, o = .tup xs
theorem Ext.refl {F H : Hp} (h : Same F H) : Ext F H F H := ⟨Same.refl _, h, Same.refl _, fun _ _ e => .inl e⟩
theorem Ext.trans {F H F1 H1 F2 H2 : Hp} (a : Ext F H F1 H1) (b : Ext F1 H1 F2 H2) : Ext F H F2 H2 :=
  ⟨a.f.trans b.f, b.s, a.h.trans b.h, fun c o e => by
    rcases b.n c o e with q | q | q
    · exact a.n c o q
    · exact .inr (.inl (a.h.free q))
    · exact .inr (.inr q)⟩
theorem same_upd {H : Hp} {p : Addr} {o : HO} (h : H p = none) : Same H (upd H p o) := fun b x e => by
  rw [upd_ne (ne_of_none e h)]
  exact e
theorem Ext.fresh {F H : Hp} (s : Same F H) {p : Addr} (o : HO) (np : H p = none) : Ext F H (upd F p o) (upd H p o) :=
  ⟨same_upd (s.free np), fun b x e => by
    by_cases hb : b = p
    · subst hb; rw [upd_same] at e ⊢; exact e
    · rw [upd_ne hb] at e ⊢; exact s b x e, same_upd np, fun b x e => by
    by_cases hb : b = p
    · subst hb; exact .inr (.inl np)
    · rw [upd_ne hb] at e; exact .inl e⟩
/-- the new object stays outside of F -/
theorem Ext.freshO {F H : Hp} (s : Same F H) {p : Addr} (o : HO) (np : H p = none) : Ext F H F (upd H p o) :=
  ⟨Same.refl _, s.trans (same_upd np), same_upd np, fun _ _ e => .inl e⟩
theorem sqt_mono {K : PySem.W.Frag} {H H' : Hp} {a : Addr} {xs : List V} (e : Same H H') (h : SqT K H a xs) : SqT K H' a xs := e _ _ h
mutual
theorem Dp_mono {K : PySem.W.Frag} {F F' : Hp} (s : Same F F') : ∀ {v : V} {d : PyData}, Dp K F v d → Dp K F' v d
  | _, _, .non => .non
  | _, _, .bl b => .bl b
  | _, _, .int i => .int i
  | _, _, .str x => .str x
  | _, _, .lst h a => .lst (s.seq h) (DpAll_mono s a)
  | _, _, .tup h a => .tup (sqt_mono s h) (DpAll_mono s a)
theorem DpAll_mono {K : PySem.W.Frag} {F F' : Hp} (s : Same F F') : ∀ {vs : List V} {ds : List PyData}, DpAll K F vs ds → DpAll K F' vs ds
  | _, _, .nil => .nil
  | _, _, .cons h a => .cons (Dp_mono s h) (DpAll_mono s a)
end
theorem DpAll_len {K : PySem.W.Frag} {F : Hp} : ∀ {vs : List V} {ds : List PyData}, DpAll K F vs ds → vs.length = ds.length
  | _, _, .nil => rfl
  | _, _, .cons _ a => by rw [List.length_cons, List.length_cons, DpAll_len a]
theorem DpAll_get {K : PySem.W.Frag} {F : Hp} : ∀ {vs : List V} {ds : List PyData}, DpAll K F vs ds → ∀ {i : Nat} {d : PyData}, ds[i]? = some d → ∃ v, vs[i]? = some v ∧ Dp K F v d
  | _, _, .nil, _, _, e => by simp at e
  | _, _, .cons h a, 0, d, e => by
    have e' := Option.some.inj e
    subst e'
    exact ⟨_, rfl, h⟩
  | _, _, .cons h a, i + 1, d, e => DpAll_get a (i := i) e
theorem DpAll_getV {K : PySem.W.Frag} {F : Hp} : ∀ {vs : List V} {ds : List PyData}, DpAll K F vs ds → ∀ {i : Nat} {v : V}, vs[i]? = some v → ∃ d, ds[i]? = some d ∧ Dp K F v d
  | _, _, .nil, _, _, e => by simp at e
  | _, _, .cons h a, 0, d, e => by
    have e' := Option.some.inj e
    subst e'
    exact ⟨_, rfl, h⟩
  | _, _, .cons h a, i + 1, d, e => DpAll_getV a (i := i) e
theorem DpAll_app {K : PySem.W.Frag} {F : Hp} : ∀ {vs ws : List V} {ds es : List PyData}, DpAll K F vs ds → DpAll K F ws es → DpAll K F (vs ++ ws) (ds ++ es)
  | _, _, _, _, .nil, b => b
  | _, _, _, _, .cons h a, b => .cons h (DpAll_app a b)
theorem DpAll_set {K : PySem.W.Frag} {F : Hp} {v : V} {d : PyData} (hv : Dp K F v d) : ∀ {vs : List V} {ds : List PyData} (i : Nat), DpAll K F vs ds → DpAll K F (vs.set i v) (ds.set i d)
  | _, _, _, .nil => .nil
  | _, _, 0, .cons _ a => .cons hv a
  | _, _, i + 1, .cons h a => .cons h (DpAll_set hv i a)
theorem DpAll_drop {K : PySem.W.Frag} {F : Hp} : ∀ {vs : List V} {ds : List PyData} (n : Nat), DpAll K F vs ds → DpAll K F (vs.drop n) (ds.drop n)
  | _, _, 0, h => h
  | _, _, n + 1, .nil => .nil
  | _, _, n + 1, .cons _ a => DpAll_drop n a
theorem DpAll_take {K : PySem.W.Frag} {F : Hp} : ∀ {vs : List V} {ds : List PyData} (n : Nat), DpAll K F vs ds → DpAll K F (vs.take n) (ds.take n)
  | _, _, 0, h => .nil
  | _, _, n + 1, .nil => .nil
  | _, _, n + 1, .cons h a => .cons h (DpAll_take n a)
theorem DpAll_one {K : PySem.W.Frag} {F : Hp} {v : V} {d : PyData} (h : Dp K F v d) : DpAll K F [v] [d] := .cons h .nil
theorem DpAll_rep {K : PySem.W.Frag} {F : Hp} {vs : List V} {ds : List PyData} (h : DpAll K F vs ds) : ∀ k : Nat, DpAll K F (List.replicate k vs).flatten (List.replicate k ds).flatten
  | 0 => .nil
  | k + 1 => by
    rw [List.replicate_succ, List.replicate_succ, List.flatten_cons, List.flatten_cons]
    exact DpAll_app h (DpAll_rep h k)
theorem DpAll_ints {K : PySem.W.Frag} {F : Hp} : ∀ {vs : List V} {ds : List PyData} {ns : List Int}, DpAll K F vs ds → Dn.intsOf ds = some ns → vs = ns.map V.int
  | _, _, _, .nil, e => by
    have e' := Option.some.inj e
    subst e'
    rfl
  | _, _, ns, .cons h a, e => by
    cases h with
    | int i =>
      unfold Dn.intsOf at e
      obtain ⟨ms, hm, e'⟩ := Option.map_eq_some_iff.mp e
      subst e'
      rw [DpAll_ints a hm]
      rfl
    | non => cases e
    | bl b => cases e
    | str x => cases e
    | lst _ _ => cases e
    | tup _ _ => cases e
theorem DpAll_bls {K : PySem.W.Frag} {F : Hp} : ∀ {vs : List V} {ds : List PyData} {ns : List Bool}, DpAll K F vs ds → Dn.boolsOf ds = some ns → vs = ns.map V.bl
  | _, _, _, .nil, e => by
    have e' := Option.some.inj e
    subst e'
    rfl
  | _, _, ns, .cons h a, e => by
    cases h with
    | bl i =>
      unfold Dn.boolsOf at e
      obtain ⟨ms, hm, e'⟩ := Option.map_eq_some_iff.mp e
      subst e'
      rw [DpAll_bls a hm]
      rfl
    | non => cases e
    | int b => cases e
    | str x => cases e
    | lst _ _ => cases e
    | tup _ _ => cases e

/-- the value v stands for d; a list at its top may be one that is still changed -/
def W (K : PySem.W.Frag) (F H : Hp) (v : V) (d : PyData) : Prop := Dp K F v d ∨ ∃ a vs ds, v = .ref a ∧ d = .list ds ∧ H a = some (.lst vs) ∧ DpAll K F vs ds
theorem W.dp {K : PySem.W.Frag} {F H : Hp} {v : V} {d : PyData} (s : Same F H) (w : W K F H v d) : Dp K H v d := by
  rcases w with w | ⟨a, vs, ds, rfl, rfl, h, q⟩
  · exact Dp_mono s w
  · exact .lst (SqL.of h) (DpAll_mono s q)
theorem W.mono {K : PySem.W.Frag} {F H F' H' : Hp} {v : V} {d : PyData} (x : Ext F H F' H') (w : W K F H v d) : W K F' H' v d := by
  rcases w with w | ⟨a, vs, ds, rfl, rfl, h, q⟩
  · exact .inl (Dp_mono x.f w)
  · exact .inr ⟨a, vs, ds, rfl, rfl, x.h _ _ h, DpAll_mono x.f q⟩
theorem W.list {K : PySem.W.Frag} {F H : Hp} {v : V} {ds : List PyData} (s : Same F H) (w : W K F H v (.list ds)) : ∃ a vs, v = .ref a ∧ SqL K H a vs ∧ DpAll K F vs ds := by
  rcases w with w | ⟨a, vs, ds', rfl, e, h, q⟩
  · cases w with
    | lst h a => exact ⟨_, _, rfl, s.seq h, a⟩
  · cases e
    exact ⟨a, vs, rfl, SqL.of h, q⟩
theorem W.tuple {K : PySem.W.Frag} {F H : Hp} {v : V} {ds : List PyData} (w : W K F H v (.tuple ds)) : ∃ a vs, v = .ref a ∧ SqT K F a vs ∧ DpAll K F vs ds := by
  rcases w with w | ⟨a, vs, ds', rfl, e, h, q⟩
  · cases w with
    | tup h a => exact ⟨_, _, rfl, h, a⟩
  · cases e
theorem W.int {K : PySem.W.Frag} {F H : Hp} {v : V} {i : Int} (w : W K F H v (.int i)) : v = .int i := by
  rcases w with w | ⟨a, vs, ds', rfl, e, h, q⟩
  · cases w; rfl
  · cases e
theorem W.bl {K : PySem.W.Frag} {F H : Hp} {v : V} {i : Bool} (w : W K F H v (.bool i)) : v = .bl i := by
  rcases w with w | ⟨a, vs, ds', rfl, e, h, q⟩
  · cases w; rfl
  · cases e
theorem W.str {K : PySem.W.Frag} {F H : Hp} {v : V} {i : Str} (w : W K F H v (.str i)) : v = .str i := by
  rcases w with w | ⟨a, vs, ds', rfl, e, h, q⟩
  · cases w; rfl
  · cases e
theorem W.non {K : PySem.W.Frag} {F H : Hp} {v : V} (w : W K F H v .none) : v = .non := by
  rcases w with w | ⟨a, vs, ds', rfl, e, h, q⟩
  · cases w; rfl
  · cases e

/-! ### the slots -/
structure Rp (K : PySem.W.Frag) (B F0 F H : Hp) (σ : L2.St) (ρ : Dn.Env) : Prop where
  bh : Same B H
  ff : Same F0 F
  fh : Same F H
  nb : ∀ b o, F b = some o → F0 b = some o ∨ B b = none ∨ ∃ xs, o = .tup xs
  len : σ.length = ρ.length
  dat : ∀ (i : Nat) (d : PyData), ρ[i]? = some (some (.dat d)) → ∃ v, σ[i]? = some (some v) ∧ Dp K F v d
  own : ∀ (i : Nat) (ds : List PyData), ρ[i]? = some (some (.own ds)) → ∃ a vs, σ[i]? = some (some (.ref a)) ∧ H a = some (.lst vs) ∧ B a = none ∧ F a = none ∧ DpAll K F vs ds
  ownT : ∀ (i : Nat) (kvs : List (List Int × PyData)), ρ[i]? = some (some (.ownT kvs)) → ∃ a ws, σ[i]? = some (some (.ref a)) ∧ H a = some (.dT ws) ∧ B a = none ∧ F a = none ∧ Paired (fun (p : List Key × V) (q : List Int × PyData) => p.1 = q.1.map Sum.inl ∧ Dp K F p.2 q.2) ws kvs
  frzT : ∀ (i : Nat) (kvs : List (List Int × PyData)), ρ[i]? = some (some (.frzT kvs)) → ∃ a ws o, σ[i]? = some (some (.ref a)) ∧ B a = some (.frz o (.dT ws)) ∧ Paired (fun (p : List Key × V) (q : List Int × PyData) => p.1 = q.1.map Sum.inl ∧ Dp K F p.2 q.2) ws kvs
  dist : ∀ (i j : Nat) (a : Addr) (s s' : Dn.Sl), ρ[i]? = some (some s) → ρ[j]? = some (some s') → (∀ d, s ≠ .dat d) → (∀ d, s' ≠ .dat d) → σ[i]? = some (some (.ref a)) → σ[j]? = some (some (.ref a)) → i = j
section
variable {K : PySem.W.Frag} {B F0 F H F' H' : Hp} {σ : L2.St} {ρ : Dn.Env}
theorem not_f (x : Ext F H F' H') {a : Addr} {o : HO} (h : H a = some o) (f : F a = none) (ho : ∀ xs, o ≠ .tup xs := by intro _ z; cases z) : F' a = none := by
  cases q : F' a with
  | none => rfl
  | some u =>
    rcases x.n a u q with z | z | ⟨xs, z⟩
    · rw [f] at z; cases z
    · rw [h] at z; cases z
    · have h1 := x.s a u q
      rw [x.h a o h] at h1
      cases h1
      exact absurd z (ho xs)
theorem paired_mono {κ α : Type} {P Q : κ → α → Prop} : ∀ {l : List κ} {m : List α}, Paired P l m → (∀ a b, P a b → Q a b) → Paired Q l m
  | _, _, .nil, _ => .nil
  | _, _, .cons h t, f => .cons (f _ _ h) (paired_mono t f)
theorem Rp.ext (R : Rp K B F0 F H σ ρ) (x : Ext F H F' H') : Rp K B F0 F' H' σ ρ where
  bh := R.bh.trans x.h
  ff := R.ff.trans x.f
  fh := x.s
  nb := fun b o e => by
    rcases x.n b o e with q | q | q
    · exact R.nb b o q
    · exact .inr (.inl (R.bh.free q))
    · exact .inr (.inr q)
  len := R.len
  dat := fun i d e => let ⟨v, h1, h2⟩ := R.dat i d e; ⟨v, h1, Dp_mono x.f h2⟩
  own := fun i ds e => let ⟨a, vs, h1, h2, h3, h4, h5⟩ := R.own i ds e; ⟨a, vs, h1, x.h _ _ h2, h3, not_f x h2 h4, DpAll_mono x.f h5⟩
  ownT := fun i ds e => let ⟨a, vs, h1, h2, h3, h4, h5⟩ := R.ownT i ds e; ⟨a, vs, h1, x.h _ _ h2, h3, not_f x h2 h4, paired_mono h5 fun _ _ q => ⟨q.1, Dp_mono x.f q.2⟩⟩
  frzT := fun i ds e => let ⟨a, vs, o, h1, h2, h5⟩ := R.frzT i ds e; ⟨a, vs, o, h1, h2, paired_mono h5 fun _ _ q => ⟨q.1, Dp_mono x.f q.2⟩⟩
  dist := R.dist
theorem Rp.rebase (R : Rp K B F0 F H σ ρ) : Rp K B F F H σ ρ :=
  ⟨R.bh, Same.refl _, R.fh, fun _ _ e => .inl e, R.len, R.dat, R.own, R.ownT, R.frzT, R.dist⟩
theorem Rp.unbase {H1 : Hp} {σ1 : L2.St} {ρ1 : Dn.Env} (R0 : Rp K B F0 F H1 σ1 ρ1) (R : Rp K B F F' H' σ ρ) : Rp K B F0 F' H' σ ρ :=
  ⟨R.bh, R0.ff.trans R.ff, R.fh, fun b o e => by
    rcases R.nb b o e with q | q
    · exact R0.nb b o q
    · exact .inr q, R.len, R.dat, R.own, R.ownT, R.frzT, R.dist⟩
/-- a slot takes a datum -/
theorem Rp.setDat (R : Rp K B F0 F H σ ρ) {v : V} {d : PyData} (h : Dp K F v d) (i : Nat) : Rp K B F0 F H (σ.set i (some v)) (ρ.set i (some (.dat d))) where
  bh := R.bh
  ff := R.ff
  fh := R.fh
  nb := R.nb
  len := by rw [List.length_set, List.length_set]; exact R.len
  dat := fun j e q => by
    by_cases hj : i = j
    · subst hj
      have hl : i < ρ.length := by
        have := List.getElem?_eq_some_iff.mp q
        obtain ⟨z, _⟩ := this
        rw [List.length_set] at z; exact z
      rw [List.getElem?_set_self hl] at q
      cases q
      exact ⟨v, List.getElem?_set_self (by rw [R.len]; exact hl), h⟩
    · rw [List.getElem?_set_ne hj] at q ⊢
      exact R.dat j e q
  own := fun j e q => by
    by_cases hj : i = j
    · subst hj
      have hl : i < ρ.length := by
        have := List.getElem?_eq_some_iff.mp q
        obtain ⟨z, _⟩ := this
        rw [List.length_set] at z; exact z
      rw [List.getElem?_set_self hl] at q
      cases q
    · rw [List.getElem?_set_ne hj] at q ⊢
      exact R.own j e q
  ownT := fun j e q => by
    by_cases hj : i = j
    · subst hj
      have hl : i < ρ.length := by
        have := List.getElem?_eq_some_iff.mp q
        obtain ⟨z, _⟩ := this
        rw [List.length_set] at z; exact z
      rw [List.getElem?_set_self hl] at q
      cases q
    · rw [List.getElem?_set_ne hj] at q ⊢
      exact R.ownT j e q
  frzT := fun j e q => by
    by_cases hj : i = j
    · subst hj
      have hl : i < ρ.length := by
        have := List.getElem?_eq_some_iff.mp q
        obtain ⟨z, _⟩ := this
        rw [List.length_set] at z; exact z
      rw [List.getElem?_set_self hl] at q
      cases q
    · rw [List.getElem?_set_ne hj] at q ⊢
      exact R.frzT j e q
  dist := fun j k a s s' h1 h2 n1 n2 e1 e2 => by
    have key : ∀ {j s}, (ρ.set i (some (.dat d)))[j]? = some (some s) → (∀ d, s ≠ .dat d) → i ≠ j := fun {j s} q n z => by
      subst z
      have hl : i < ρ.length := by
        have := List.getElem?_eq_some_iff.mp q
        obtain ⟨z, _⟩ := this
        rw [List.length_set] at z; exact z
      rw [List.getElem?_set_self hl] at q
      cases q
      exact n d rfl
    have i1 := key h1 n1
    have i2 := key h2 n2
    rw [List.getElem?_set_ne i1] at h1 e1
    rw [List.getElem?_set_ne i2] at h2 e2
    exact R.dist j k a s s' h1 h2 n1 n2 e1 e2
/-- a slot forgotten -/
theorem Rp.forget (R : Rp K B F0 F H σ ρ) (i : Nat) : Rp K B F0 F H (σ.set i none) (ρ.set i none) where
  bh := R.bh
  ff := R.ff
  fh := R.fh
  nb := R.nb
  len := by rw [List.length_set, List.length_set]; exact R.len
  dat := fun j e q => by
    by_cases hj : i = j
    · subst hj
      rw [List.getElem?_set_self' ] at q
      cases hz : ρ[i]? with
      | none => rw [hz] at q; cases q
      | some z => rw [hz] at q; cases q
    · rw [List.getElem?_set_ne hj] at q ⊢
      exact R.dat j e q
  own := fun j e q => by
    by_cases hj : i = j
    · subst hj
      rw [List.getElem?_set_self' ] at q
      cases hz : ρ[i]? with
      | none => rw [hz] at q; cases q
      | some z => rw [hz] at q; cases q
    · rw [List.getElem?_set_ne hj] at q ⊢
      exact R.own j e q
  ownT := fun j e q => by
    by_cases hj : i = j
    · subst hj
      rw [List.getElem?_set_self' ] at q
      cases hz : ρ[i]? with
      | none => rw [hz] at q; cases q
      | some z => rw [hz] at q; cases q
    · rw [List.getElem?_set_ne hj] at q ⊢
      exact R.ownT j e q
  frzT := fun j e q => by
    by_cases hj : i = j
    · subst hj
      rw [List.getElem?_set_self' ] at q
      cases hz : ρ[i]? with
      | none => rw [hz] at q; cases q
      | some z => rw [hz] at q; cases q
    · rw [List.getElem?_set_ne hj] at q ⊢
      exact R.frzT j e q
  dist := fun j k a s s' h1 h2 n1 n2 e1 e2 => by
    have key : ∀ {j s}, (ρ.set i none)[j]? = some (some s) → i ≠ j := fun {j s} q z => by
      subst z
      rw [List.getElem?_set_self' ] at q
      cases hz : ρ[i]? with
      | none => rw [hz] at q; cases q
      | some z => rw [hz] at q; cases q
    have i1 := key h1
    have i2 := key h2
    rw [List.getElem?_set_ne i1] at h1 e1
    rw [List.getElem?_set_ne i2] at h2 e2
    exact R.dist j k a s s' h1 h2 n1 n2 e1 e2
theorem Rp.wipe (R : Rp K B F0 F H σ ρ) : ∀ vs : List Nat, Rp K B F0 F H (L2.wipe σ vs) (Dn.wipe ρ vs)
  | [] => R
  | v :: vs => (R.wipe vs).forget v
end

/-! ### readings -/
section
variable (K : PySem.W.Frag) (cl : Str → Value) (E : XK)
def Rd (t : TE) (f : Dn.EF) : Prop := ∀ B F0 F H σ ρ, Rp K B F0 F H σ ρ → ∀ r, f ρ = some r → ∀ Q : VK,
  (∀ d, r = .ok d → ∀ v F' H', Ext F H F' H' → Dp K F' v d → Q v H') → (∀ c, r = .exc c → ∀ F' H', Ext F H F' H' → E (cl c) none H') → t σ H Q
def RdW (t : TE) (f : Dn.EF) : Prop := ∀ B F0 F H σ ρ, Rp K B F0 F H σ ρ → ∀ r, f ρ = some r → ∀ Q : VK,
  (∀ d, r = .ok d → ∀ v F' H', Ext F H F' H' → W K F' H' v d → Q v H') → (∀ c, r = .exc c → ∀ F' H', Ext F H F' H' → E (cl c) none H') → t σ H Q
/-- a new list -/
def RdN (t : TE) (f : Dn.EF) : Prop := ∀ B F0 F H σ ρ, Rp K B F0 F H σ ρ → ∀ r, f ρ = some r → ∀ Q : VK,
  (∀ d, r = .ok d → ∀ a vs ds F' H', Ext F H F' H' → d = .list ds → H a = none → F' a = none → H' a = some (.lst vs) → DpAll K F' vs ds → Q (.ref a) H') → (∀ c, r = .exc c → ∀ F' H', Ext F H F' H' → E (cl c) none H') → t σ H Q
def RdT (t : TT) (f : Dn.TF) : Prop := ∀ B F0 F H σ ρ, Rp K B F0 F H σ ρ → ∀ r, f ρ = some r → ∀ Q : Bool → Hp → Prop,
  (∀ b, r = .ok b → ∀ F' H', Ext F H F' H' → Q b H') → (∀ c, r = .exc c → ∀ F' H', Ext F H F' H' → E (cl c) none H') → t σ H Q
def RdA (t : TA) (f : Dn.AF) : Prop := ∀ B F0 F H σ ρ, Rp K B F0 F H σ ρ → ∀ r, f ρ = some r → ∀ Q : List V → Hp → Prop,
  (∀ ds, r = .ok ds → ∀ vs F' H', Ext F H F' H' → DpAll K F' vs ds → Q vs H') → (∀ c, r = .exc c → ∀ F' H', Ext F H F' H' → E (cl c) none H') → t σ H Q
def RdO (t : TO) (f : Dn.Env → Dn.M (Option Int)) : Prop := ∀ B F0 F H σ ρ, Rp K B F0 F H σ ρ → ∀ r, f ρ = some r → ∀ Q : Option Int → Hp → Prop,
  (∀ b, r = .ok b → ∀ F' H', Ext F H F' H' → Q b H') → (∀ c, r = .exc c → ∀ F' H', Ext F H F' H' → E (cl c) none H') → t σ H Q
/-- J goes through ds while F stands -/
structure Walk (J : It) (F : Hp) (ds : List PyData) : Prop where
  go : ∀ i H, Same F H → i < ds.length → J.go i H
  stop : ∀ i H, Same F H → ds.length ≤ i → J.stop i H
  yld : ∀ i F' H x H', Same F F' → Same F' H → J.yld i H x H' → i < ds.length → ∃ d F'', ds[i]? = some d ∧ Ext F' H F'' H' ∧ Dp K F'' x d
def RdI (t : TI) (f : Dn.AF) : Prop := ∀ B F0 F H σ ρ, Rp K B F0 F H σ ρ → ∀ r, f ρ = some r → ∀ Q : It → Hp → Prop,
  (∀ ds, r = .ok ds → ∀ J F' H', Ext F H F' H' → Walk K J F' ds → Q J H') → (∀ c, r = .exc c → ∀ F' H', Ext F H F' H' → E (cl c) none H') → t σ H Q
def RdG (g : TG) (f : Dn.GF) (vs : List Nat) : Prop := ∀ B F0 F H σ ρ v d ρ', Rp K B F0 F H σ ρ → Dp K F v d → f d ρ = some ρ' → ∀ Q : L2.St → Hp → Prop,
  (∀ σ', Rp K B F0 F H σ' ρ' → (∀ ws : List Nat, (∀ i ∈ vs, i ∈ ws) → L2.wipe σ' ws = L2.wipe σ ws) → Q σ' H) → g v σ H Q
def Post (B F0 : Hp) (D : Ends) : Dn.SOut → Prop
  | .nx ρ' => ∀ F' H' σ', Rp K B F0 F' H' σ' ρ' → D.nx σ' H'
  | .bk ρ' => ∀ F' H' σ', Rp K B F0 F' H' σ' ρ' → D.bk σ' H'
  | .ct ρ' => ∀ F' H' σ', Rp K B F0 F' H' σ' ρ' → D.ct σ' H'
  | .rt d => ∀ v F' H', Same B H' → Same F0 F' → Same F' H' → (∀ b o, F' b = some o → F0 b = some o ∨ B b = none ∨ ∃ xs, o = .tup xs) → Dp K F' v d → D.rt v H'
  | .exc c => ∀ H', Same B H' → E (cl c) none H'
def RdS (t : TS) (f : Dn.SF) : Prop := ∀ B F0 F H σ ρ, Rp K B F0 F H σ ρ → ∀ r, f ρ = some r → ∀ D : Ends, Post K cl E B F0 D r → t D σ H
end

section
variable {K : PySem.W.Frag} {cl : Str → Value} {E : XK}
theorem bnd_cases {α β : Type} {x : Dn.M α} {k : α → Dn.M β} {r : Dn.Rs β} (h : Dn.bnd x k = some r) : (∃ a, x = some (.ok a) ∧ k a = some r) ∨ ∃ c, x = some (.exc c) ∧ r = .exc c := by
  cases x with
  | none => cases h
  | some y =>
    cases y with
    | ok a => exact .inl ⟨a, rfl, h⟩
    | exc c =>
      have e := Option.some.inj h
      exact .inr ⟨c, rfl, e.symm⟩
theorem lft_cases {α : Type} {x : Option α} {r : Dn.Rs α} (h : Dn.lft x = some r) : ∃ a, x = some a ∧ r = .ok a := by
  cases x with
  | none => cases h
  | some a => exact ⟨a, rfl, (Option.some.inj h).symm⟩
theorem Rd.w {t : TE} {f : Dn.EF} (h : Rd K cl E t f) : RdW K cl E t f := fun B F0 F H σ ρ R r e Q ok ex =>
  h B F0 F H σ ρ R r e Q (fun d ed v F' H' x q => ok d ed v F' H' x (.inl q)) ex
theorem RdN.d {t : TE} {f : Dn.EF} (h : RdN K cl E t f) : Rd K cl E t f := fun B F0 F H σ ρ R r e Q ok ex =>
  h B F0 F H σ ρ R r e Q (fun d ed a vs ds F' H' x el na fa ha q => by
    subst el
    refine ok _ ed (.ref a) (upd F' a (.lst vs)) H' ⟨x.f.trans (same_upd fa), fun b o eb => ?_, x.h, fun b o eb => ?_⟩ (.lst (SqL.of upd_same) (DpAll_mono (same_upd fa) q))
    · by_cases hb : b = a
      · subst hb; rw [upd_same] at eb; cases eb; exact ha
      · rw [upd_ne hb] at eb; exact x.s b o eb
    · by_cases hb : b = a
      · subst hb; exact .inr (.inl na)
      · rw [upd_ne hb] at eb; exact x.n b o eb) ex
/-- no list at the top: strong -/
theorem rd_var (i : Nat) : Rd K cl E (tVar i) (Dn.eVar i) := fun B F0 F H σ ρ R r e Q ok ex => by
  unfold Dn.eVar at e
  split at e
  · rename_i d hd
    cases e
    obtain ⟨v, h1, h2⟩ := R.dat i d hd
    exact ⟨v, h1, ok d rfl v F H (Ext.refl R.fh) h2⟩
  · cases e
theorem rdw_var (i : Nat) : RdW K cl E (tVar i) (Dn.eVarW i) := fun B F0 F H σ ρ R r e Q ok ex => by
  unfold Dn.eVarW at e
  split at e
  · rename_i d hd
    cases e
    obtain ⟨v, h1, h2⟩ := R.dat i d hd
    exact ⟨v, h1, ok d rfl v F H (Ext.refl R.fh) (.inl h2)⟩
  · rename_i ds hd
    cases e
    obtain ⟨a, vs, h1, h2, h3, h4, h5⟩ := R.own i ds hd
    exact ⟨.ref a, h1, ok _ rfl _ F H (Ext.refl R.fh) (.inr ⟨a, vs, ds, rfl, rfl, h2, h5⟩)⟩
  · cases e
theorem rd_const {v : V} {d : PyData} (h : ∀ F, Dp K F v d) : Rd K cl E (tC v) (Dn.eC d) := fun B F0 F H σ ρ R r e Q ok ex => by
  cases e
  exact ok d rfl v F H (Ext.refl R.fh) (h F)
theorem rd_int (i : Int) : Rd K cl E (tC (.int i)) (Dn.eC (.int i)) := rd_const fun _ => .int i
theorem rd_bl (i : Bool) : Rd K cl E (tC (.bl i)) (Dn.eC (.bool i)) := rd_const fun _ => .bl i
theorem rd_non : Rd K cl E (tC .non) (Dn.eC .none) := rd_const fun _ => .non
theorem rd_str (i : Str) : Rd K cl E (tC (.str i)) (Dn.eC (.str i)) := rd_const fun _ => .str i

/-! ### operators, by data -/
def rD2 (K : PySem.W.Frag) (g : PyData → PyData → Option PyData) : R2 := fun x y H Q => ∃ F d e r, Same F H ∧ W K F H x d ∧ W K F H y e ∧ g d e = some r ∧ ∀ v F' H', Ext F H F' H' → Dp K F' v r → Q v H'
def rD1 (K : PySem.W.Frag) (g : PyData → Option PyData) : V → Hp → VK → Prop := fun x H Q => ∃ F d r, Same F H ∧ W K F H x d ∧ g d = some r ∧ ∀ v F' H', Ext F H F' H' → Dp K F' v r → Q v H'
theorem rd_op {g : PyData → PyData → Option PyData} {ta tb : TE} {fa fb : Dn.EF} (ha : RdW K cl E ta fa) (hb : RdW K cl E tb fb) : Rd K cl E (tOp (rD2 K g) ta tb) (Dn.e2 g fa fb) := fun B F0 F H σ ρ R r e Q ok ex => by
  rcases bnd_cases e with ⟨a, e1, e2⟩ | ⟨c, e1, rfl⟩
  · refine ha B F0 F H σ ρ R _ e1 _ (fun d ed v F1 H1 x1 w1 => ?_) (fun c ec => by cases ec)
    cases ed
    rcases bnd_cases e2 with ⟨b, e3, e4⟩ | ⟨c, e3, rfl⟩
    · refine hb B F0 F1 H1 σ ρ (R.ext x1) _ e3 _ (fun d2 ed2 v2 F2 H2 x2 w2 => ?_) (fun c ec => by cases ec)
      cases ed2
      obtain ⟨z, ez, rfl⟩ := lft_cases e4
      exact ⟨F2, a, b, z, x2.s, w1.mono x2, w2, ez, fun v F' H' x q => ok z rfl v F' H' ((x1.trans x2).trans x) q⟩
    · exact hb B F0 F1 H1 σ ρ (R.ext x1) _ e3 _ (fun d2 ed2 => by cases ed2) (fun c' ec F' H' x => by cases ec; exact ex c rfl F' H' (x1.trans x))
  · exact ha B F0 F H σ ρ R _ e1 _ (fun d ed => by cases ed) (fun c' ec F' H' x => by cases ec; exact ex c rfl F' H' x)
theorem rd_un {g : PyData → Option PyData} {ta : TE} {fa : Dn.EF} (ha : RdW K cl E ta fa) : Rd K cl E (tUn (rD1 K g) ta) (Dn.e1 g fa) := fun B F0 F H σ ρ R r e Q ok ex => by
  rcases bnd_cases e with ⟨a, e1, e2⟩ | ⟨c, e1, rfl⟩
  · refine ha B F0 F H σ ρ R _ e1 _ (fun d ed v F1 H1 x1 w1 => ?_) (fun c ec => by cases ec)
    cases ed
    obtain ⟨z, ez, rfl⟩ := lft_cases e2
    exact ⟨F1, a, z, x1.s, w1, ez, fun v F' H' x q => ok z rfl v F' H' (x1.trans x) q⟩
  · exact ha B F0 F H σ ρ R _ e1 _ (fun d ed => by cases ed) (fun c' ec F' H' x => by cases ec; exact ex c rfl F' H' x)
/-- a built-in of one argument, of two -/
def rDC1 (K : PySem.W.Frag) (g : PyData → Option PyData) : List V → Hp → VK → Prop := fun xs H Q => ∃ x, xs = [x] ∧ rD1 K g x H Q
def rDC2 (K : PySem.W.Frag) (g : PyData → PyData → Option PyData) : List V → Hp → VK → Prop := fun xs H Q => ∃ x y, xs = [x, y] ∧ rD2 K g x y H Q
theorem rd_b1 {g : PyData → Option PyData} {ta : TE} {fa : Dn.EF} (ha : RdW K cl E ta fa) : Rd K cl E (tCB (rDC1 K g) (tCons ta tNil)) (Dn.e1 g fa) := fun B F0 F H σ ρ R r e Q ok ex => by
  have h := rd_un (g := g) ha B F0 F H σ ρ R r e Q ok ex
  rcases bnd_cases e with ⟨a, e1, e2⟩ | ⟨c, e1, rfl⟩
  · refine ha B F0 F H σ ρ R _ e1 _ (fun d ed v F1 H1 x1 w1 => ?_) (fun c ec => by cases ec)
    cases ed
    obtain ⟨z, ez, rfl⟩ := lft_cases e2
    exact ⟨v, rfl, F1, a, z, x1.s, w1, ez, fun v F' H' x q => ok z rfl v F' H' (x1.trans x) q⟩
  · exact ha B F0 F H σ ρ R _ e1 _ (fun d ed => by cases ed) (fun c' ec F' H' x => by cases ec; exact ex c rfl F' H' x)
theorem rd_b2 {g : PyData → PyData → Option PyData} {ta tb : TE} {fa fb : Dn.EF} (ha : RdW K cl E ta fa) (hb : RdW K cl E tb fb) : Rd K cl E (tCB (rDC2 K g) (tCons ta (tCons tb tNil))) (Dn.e2 g fa fb) := fun B F0 F H σ ρ R r e Q ok ex => by
  rcases bnd_cases e with ⟨a, e1, e2⟩ | ⟨c, e1, rfl⟩
  · refine ha B F0 F H σ ρ R _ e1 _ (fun d ed v F1 H1 x1 w1 => ?_) (fun c ec => by cases ec)
    cases ed
    rcases bnd_cases e2 with ⟨b, e3, e4⟩ | ⟨c, e3, rfl⟩
    · refine hb B F0 F1 H1 σ ρ (R.ext x1) _ e3 _ (fun d2 ed2 v2 F2 H2 x2 w2 => ?_) (fun c ec => by cases ec)
      cases ed2
      obtain ⟨z, ez, rfl⟩ := lft_cases e4
      exact ⟨v, v2, rfl, F2, a, b, z, x2.s, w1.mono x2, w2, ez, fun v F' H' x q => ok z rfl v F' H' ((x1.trans x2).trans x) q⟩
    · exact hb B F0 F1 H1 σ ρ (R.ext x1) _ e3 _ (fun d2 ed2 => by cases ed2) (fun c' ec F' H' x => by cases ec; exact ex c rfl F' H' (x1.trans x))
  · exact ha B F0 F H σ ρ R _ e1 _ (fun d ed => by cases ed) (fun c' ec F' H' x => by cases ec; exact ex c rfl F' H' x)

/-! ### tests -/
theorem rdt_val {ta : TE} {fa : Dn.EF} (ha : RdW K cl E ta fa) : RdT K cl E (tB ta) (Dn.asB fa) := fun B F0 F H σ ρ R r e Q ok ex => by
  rcases bnd_cases e with ⟨a, e1, e2⟩ | ⟨c, e1, rfl⟩
  · refine ha B F0 F H σ ρ R _ e1 _ (fun d ed v F1 H1 x1 w1 => ?_) (fun c ec => by cases ec)
    cases ed
    obtain ⟨z, ez, rfl⟩ := lft_cases e2
    cases a with
    | bool b =>
      cases ez
      exact ⟨z, w1.bl, ok z rfl F1 H1 x1⟩
    | none => cases ez
    | int i => cases ez
    | str i => cases ez
    | list i => cases ez
    | tuple i => cases ez
    | dict i => cases ez
  · exact ha B F0 F H σ ρ R _ e1 _ (fun d ed => by cases ed) (fun c' ec F' H' x => by cases ec; exact ex c rfl F' H' x)
theorem rdt_test {ta : TE} {fa : Dn.EF} (ha : RdW K cl E ta fa) : RdT K cl E (tTest ta) (Dn.asB fa) := rdt_val ha
theorem rdt_not {tt : TT} {f : Dn.TF} (h : RdT K cl E tt f) : RdT K cl E (L2.tNot tt) (Dn.tNotF f) := fun B F0 F H σ ρ R r e Q ok ex => by
  rcases bnd_cases e with ⟨a, e1, e2⟩ | ⟨c, e1, rfl⟩
  · refine h B F0 F H σ ρ R _ e1 _ (fun d ed F1 H1 x1 => ?_) (fun c ec => by cases ec)
    cases ed
    cases e2
    exact ok _ rfl F1 H1 x1
  · exact h B F0 F H σ ρ R _ e1 _ (fun d ed => by cases ed) (fun c' ec F' H' x => by cases ec; exact ex c rfl F' H' x)
theorem rdt_and {tt tu : TT} {f g : Dn.TF} (h : RdT K cl E tt f) (h2 : RdT K cl E tu g) : RdT K cl E (L2.tAnd tt tu) (Dn.tAndF f g) := fun B F0 F H σ ρ R r e Q ok ex => by
  rcases bnd_cases e with ⟨a, e1, e2⟩ | ⟨c, e1, rfl⟩
  · refine h B F0 F H σ ρ R _ e1 _ (fun d ed F1 H1 x1 => ?_) (fun c ec => by cases ec)
    cases ed
    cases a with
    | true =>
      rw [if_pos rfl] at e2 ⊢
      exact h2 B F0 F1 H1 σ ρ (R.ext x1) _ e2 _ (fun d ed F2 H2 x2 => ok d ed F2 H2 (x1.trans x2)) (fun c ec F2 H2 x2 => ex c ec F2 H2 (x1.trans x2))
    | false =>
      rw [if_neg Bool.false_ne_true] at e2 ⊢
      cases e2
      exact ok _ rfl F1 H1 x1
  · exact h B F0 F H σ ρ R _ e1 _ (fun d ed => by cases ed) (fun c' ec F' H' x => by cases ec; exact ex c rfl F' H' x)
theorem rdt_or {tt tu : TT} {f g : Dn.TF} (h : RdT K cl E tt f) (h2 : RdT K cl E tu g) : RdT K cl E (L2.tOr tt tu) (Dn.tOrF f g) := fun B F0 F H σ ρ R r e Q ok ex => by
  rcases bnd_cases e with ⟨a, e1, e2⟩ | ⟨c, e1, rfl⟩
  · refine h B F0 F H σ ρ R _ e1 _ (fun d ed F1 H1 x1 => ?_) (fun c ec => by cases ec)
    cases ed
    cases a with
    | true =>
      rw [if_pos rfl] at e2 ⊢
      cases e2
      exact ok _ rfl F1 H1 x1
    | false =>
      rw [if_neg Bool.false_ne_true] at e2 ⊢
      exact h2 B F0 F1 H1 σ ρ (R.ext x1) _ e2 _ (fun d ed F2 H2 x2 => ok d ed F2 H2 (x1.trans x2)) (fun c ec F2 H2 x2 => ex c ec F2 H2 (x1.trans x2))
  · exact h B F0 F H σ ρ R _ e1 _ (fun d ed => by cases ed) (fun c' ec F' H' x => by cases ec; exact ex c rfl F' H' x)
theorem rdt_yes : RdT K cl E tYes Dn.tYesF := fun B F0 F H σ ρ R r e Q ok ex => by
  cases e
  exact ok _ rfl F H (Ext.refl R.fh)
theorem rd_not {ta : TE} {fa : Dn.EF} (ha : RdW K cl E ta fa) : Rd K cl E (tNotV ta) (Dn.e1 Dn.notD fa) := fun B F0 F H σ ρ R r e Q ok ex => by
  rcases bnd_cases e with ⟨a, e1, e2⟩ | ⟨c, e1, rfl⟩
  · refine ha B F0 F H σ ρ R _ e1 _ (fun d ed v F1 H1 x1 w1 => ?_) (fun c ec => by cases ec)
    cases ed
    obtain ⟨z, ez, rfl⟩ := lft_cases e2
    cases a with
    | bool b =>
      cases ez
      exact ⟨b, w1.bl, ok _ rfl _ F1 H1 x1 (.bl _)⟩
    | none => cases ez
    | int i => cases ez
    | str i => cases ez
    | list i => cases ez
    | tuple i => cases ez
    | dict i => cases ez
  · exact ha B F0 F H σ ρ R _ e1 _ (fun d ed => by cases ed) (fun c' ec F' H' x => by cases ec; exact ex c rfl F' H' x)
theorem rd_and {ta tb : TE} {fa fb : Dn.EF} (ha : RdW K cl E ta fa) (hb : Rd K cl E tb fb) : Rd K cl E (tAndV ta tb) (Dn.eAnd fa fb) := fun B F0 F H σ ρ R r e Q ok ex => by
  rcases bnd_cases e with ⟨a, e1, e2⟩ | ⟨c, e1, rfl⟩
  · rcases bnd_cases e1 with ⟨d1, e3, e4⟩ | ⟨c, e3, e5⟩
    · refine ha B F0 F H σ ρ R _ e3 _ (fun d ed v F1 H1 x1 w1 => ?_) (fun c ec => by cases ec)
      cases ed
      obtain ⟨z, ez, e6⟩ := lft_cases e4
      cases e6
      have hd : d1 = .bool a := by
        cases d1 <;> first | (cases ez; rfl) | cases ez
      subst hd
      refine ⟨a, w1.bl, ?_⟩
      cases a with
      | true =>
        rw [if_pos rfl] at e2 ⊢
        exact hb B F0 F1 H1 σ ρ (R.ext x1) _ e2 _ (fun d ed v F2 H2 x2 q => ok d ed v F2 H2 (x1.trans x2) q) (fun c ec F2 H2 x2 => ex c ec F2 H2 (x1.trans x2))
      | false =>
        rw [if_neg Bool.false_ne_true] at e2 ⊢
        cases e2
        exact ok _ rfl _ F1 H1 x1 (.bl _)
    · cases e5
  · rcases bnd_cases e1 with ⟨d1, e3, e4⟩ | ⟨c', e3, e5⟩
    · obtain ⟨z, ez, e6⟩ := lft_cases e4
      cases e6
    · cases e5
      exact ha B F0 F H σ ρ R _ e3 _ (fun d ed => by cases ed) (fun c' ec F' H' x => by cases ec; exact ex c rfl F' H' x)
theorem rd_or {ta tb : TE} {fa fb : Dn.EF} (ha : RdW K cl E ta fa) (hb : Rd K cl E tb fb) : Rd K cl E (tOrV ta tb) (Dn.eOr fa fb) := fun B F0 F H σ ρ R r e Q ok ex => by
  rcases bnd_cases e with ⟨a, e1, e2⟩ | ⟨c, e1, rfl⟩
  · rcases bnd_cases e1 with ⟨d1, e3, e4⟩ | ⟨c, e3, e5⟩
    · refine ha B F0 F H σ ρ R _ e3 _ (fun d ed v F1 H1 x1 w1 => ?_) (fun c ec => by cases ec)
      cases ed
      obtain ⟨z, ez, e6⟩ := lft_cases e4
      cases e6
      have hd : d1 = .bool a := by
        cases d1 <;> first | (cases ez; rfl) | cases ez
      subst hd
      refine ⟨a, w1.bl, ?_⟩
      cases a with
      | true =>
        rw [if_pos rfl] at e2 ⊢
        cases e2
        exact ok _ rfl _ F1 H1 x1 (.bl _)
      | false =>
        rw [if_neg Bool.false_ne_true] at e2 ⊢
        exact hb B F0 F1 H1 σ ρ (R.ext x1) _ e2 _ (fun d ed v F2 H2 x2 q => ok d ed v F2 H2 (x1.trans x2) q) (fun c ec F2 H2 x2 => ex c ec F2 H2 (x1.trans x2))
    · cases e5
  · rcases bnd_cases e1 with ⟨d1, e3, e4⟩ | ⟨c', e3, e5⟩
    · obtain ⟨z, ez, e6⟩ := lft_cases e4
      cases e6
    · cases e5
      exact ha B F0 F H σ ρ R _ e3 _ (fun d ed => by cases ed) (fun c' ec F' H' x => by cases ec; exact ex c rfl F' H' x)
theorem rd_chain {g h : PyData → PyData → Option PyData} {ta tb tc : TE} {fa fb fc : Dn.EF} (ha : RdW K cl E ta fa) (hb : RdW K cl E tb fb) (hc : RdW K cl E tc fc) :
    Rd K cl E (tChain (rD2 K g) (rD2 K h) ta tb tc) (Dn.eChain g h fa fb fc) := fun B F0 F H σ ρ R r e Q ok ex => by
  rcases bnd_cases e with ⟨a, e1, e2⟩ | ⟨c, e1, rfl⟩
  · refine ha B F0 F H σ ρ R _ e1 _ (fun d ed v F1 H1 x1 w1 => ?_) (fun c ec => by cases ec)
    cases ed
    rcases bnd_cases e2 with ⟨b, e3, e4⟩ | ⟨c, e3, rfl⟩
    · refine hb B F0 F1 H1 σ ρ (R.ext x1) _ e3 _ (fun d2 ed2 v2 F2 H2 x2 w2 => ?_) (fun c ec => by cases ec)
      cases ed2
      rcases bnd_cases e4 with ⟨z, ez, e5⟩ | ⟨c, ec, _⟩
      · obtain ⟨z', ez', eq⟩ := lft_cases ez
        cases eq
        obtain ⟨g1, hg1, hz⟩ := Option.bind_eq_some_iff.mp ez'
        have hd : g1 = .bool z := by
          cases g1 <;> first | (cases hz; rfl) | cases hz
        subst hd
        refine ⟨F2, a, b, _, x2.s, w1.mono x2, w2, hg1, fun v3 F3 H3 x3 q3 => ?_⟩
        cases q3
        refine ⟨z, rfl, ?_⟩
        cases z with
        | true =>
          rw [if_pos rfl] at e5 ⊢
          rcases bnd_cases e5 with ⟨k, e6, e7⟩ | ⟨c, e6, rfl⟩
          · refine hc B F0 F3 H3 σ ρ (((R.ext x1).ext x2).ext x3) _ e6 _ (fun d4 ed4 v4 F4 H4 x4 w4 => ?_) (fun c ec => by cases ec)
            cases ed4
            obtain ⟨y, ey, rfl⟩ := lft_cases e7
            exact ⟨F4, b, k, y, x4.s, (w2.mono x3).mono x4, w4, ey, fun v F' H' x q => ok y rfl v F' H' ((((x1.trans x2).trans x3).trans x4).trans x) q⟩
          · exact hc B F0 F3 H3 σ ρ (((R.ext x1).ext x2).ext x3) _ e6 _ (fun d2 ed2 => by cases ed2) (fun c' ec F' H' x => by cases ec; exact ex c rfl F' H' (((x1.trans x2).trans x3).trans x))
        | false =>
          rw [if_neg Bool.false_ne_true] at e5 ⊢
          cases e5
          exact ok _ rfl _ F3 H3 ((x1.trans x2).trans x3) (.bl _)
      · obtain ⟨_, _, q⟩ := lft_cases ec
        cases q
    · exact hb B F0 F1 H1 σ ρ (R.ext x1) _ e3 _ (fun d2 ed2 => by cases ed2) (fun c' ec F' H' x => by cases ec; exact ex c rfl F' H' (x1.trans x))
  · exact ha B F0 F H σ ρ R _ e1 _ (fun d ed => by cases ed) (fun c' ec F' H' x => by cases ec; exact ex c rfl F' H' x)

/-! ### arguments, displays -/
theorem rda_nil : RdA K cl E tNil Dn.aNil := fun B F0 F H σ ρ R r e Q ok ex => by
  cases e
  exact ok [] rfl [] F H (Ext.refl R.fh) .nil
theorem rda_cons {te : TE} {t : TA} {fa : Dn.EF} {fr : Dn.AF} (ha : Rd K cl E te fa) (hr : RdA K cl E t fr) : RdA K cl E (tCons te t) (Dn.aCons fa fr) := fun B F0 F H σ ρ R r e Q ok ex => by
  rcases bnd_cases e with ⟨a, e1, e2⟩ | ⟨c, e1, rfl⟩
  · refine ha B F0 F H σ ρ R _ e1 _ (fun d ed v F1 H1 x1 w1 => ?_) (fun c ec => by cases ec)
    cases ed
    rcases bnd_cases e2 with ⟨b, e3, e4⟩ | ⟨c, e3, rfl⟩
    · refine hr B F0 F1 H1 σ ρ (R.ext x1) _ e3 _ (fun d2 ed2 v2 F2 H2 x2 w2 => ?_) (fun c ec => by cases ec)
      cases ed2
      cases e4
      exact ok _ rfl _ F2 H2 (x1.trans x2) (.cons (Dp_mono x2.f w1) w2)
    · exact hr B F0 F1 H1 σ ρ (R.ext x1) _ e3 _ (fun d2 ed2 => by cases ed2) (fun c' ec F' H' x => by cases ec; exact ex c rfl F' H' (x1.trans x))
  · exact ha B F0 F H σ ρ R _ e1 _ (fun d ed => by cases ed) (fun c' ec F' H' x => by cases ec; exact ex c rfl F' H' x)
theorem line1000 {n : Nat} (h : n ≤ 1000) : n ≤ sizeLine := Nat.le_of_lt (small1000 h)
theorem lineM {n : Nat} (h : n ≤ 1000000) : n < sizeLine := by rw [sizeLine_eq]; omega
theorem rd_tup {t : TA} {fs : Dn.AF} (h : RdA K cl E t fs) : Rd K cl E (tTup t) (Dn.eTup fs) := fun B F0 F H σ ρ R r e Q ok ex => by
  rcases bnd_cases e with ⟨a, e1, e2⟩ | ⟨c, e1, rfl⟩
  · refine h B F0 F H σ ρ R _ e1 _ (fun d ed vs F1 H1 x1 w1 => ?_) (fun c ec => by cases ec)
    cases ed
    split at e2
    · rename_i hl
      cases e2
      refine ⟨by rw [DpAll_len w1]; exact line1000 hl, fun p hp => ok _ rfl _ (upd F1 p (.tup vs)) _ (x1.trans (Ext.fresh x1.s _ hp)) (.tup (SqT.of upd_same) (DpAll_mono (same_upd (x1.s.free hp)) w1))⟩
    · cases e2
  · exact h B F0 F H σ ρ R _ e1 _ (fun d ed => by cases ed) (fun c' ec F' H' x => by cases ec; exact ex c rfl F' H' x)
theorem rdn_lst {t : TA} {fs : Dn.AF} (h : RdA K cl E t fs) : RdN K cl E (tLst t) (Dn.eLst fs) := fun B F0 F H σ ρ R r e Q ok ex => by
  rcases bnd_cases e with ⟨a, e1, e2⟩ | ⟨c, e1, rfl⟩
  · refine h B F0 F H σ ρ R _ e1 _ (fun d ed vs F1 H1 x1 w1 => ?_) (fun c ec => by cases ec)
    cases ed
    split at e2
    · rename_i hl
      cases e2
      refine ⟨by rw [DpAll_len w1]; exact line1000 hl, fun p hp => ok _ rfl p vs a F1 (upd H1 p (.lst vs)) (x1.trans (Ext.freshO x1.s _ hp)) rfl (x1.h.free hp) (x1.s.free hp) upd_same w1⟩
    · cases e2
  · exact h B F0 F H σ ρ R _ e1 _ (fun d ed => by cases ed) (fun c' ec F' H' x => by cases ec; exact ex c rfl F' H' x)

/-! ### defs -/
/-- the promise: g's answer -/
def spF (K : PySem.W.Frag) (cl : Str → Value) (n : Nat) (g : Dn.FF) : Sp := fun vs H Q E => ∃ F ds r, vs.length = n ∧ Same F H ∧ DpAll K F vs ds ∧ g ds = some r ∧
  (∀ d, r = .ok d → ∀ v F' H', Ext F H F' H' → Dp K F' v d → Q v H') ∧ (∀ c, r = .exc c → ∀ H', Same H H' → E (cl c) none H')
theorem rd_call {g : Dn.FF} {t : TA} {n : Nat} {fs : Dn.AF} (h : RdA K cl E t fs) (hn : ∀ ρ ds, fs ρ = some (.ok ds) → ds.length = n) : Rd K cl E (tCall (spF K cl n g) [] E t) (Dn.eCall g fs) := fun B F0 F H σ ρ R r e Q ok ex => by
  rcases bnd_cases e with ⟨a, e1, e2⟩ | ⟨c, e1, rfl⟩
  · refine h B F0 F H σ ρ R _ e1 _ (fun d ed vs F1 H1 x1 w1 => ?_) (fun c ec => by cases ec)
    cases ed
    refine ⟨F1, a, r, ?_, x1.s, by rw [List.append_nil]; exact w1, e2, fun d ed v F' H' x q => ok d ed v F' H' (x1.trans x) q, fun c ec H' x => ex c ec F1 H' (x1.trans ⟨Same.refl _, x1.s.trans x, x, fun _ _ q => .inl q⟩)⟩
    rw [List.append_nil, DpAll_len w1]
    exact hn ρ a e1
  · exact h B F0 F H σ ρ R _ e1 _ (fun d ed => by cases ed) (fun c' ec F' H' x => by cases ec; exact ex c rfl F' H' x)
abbrev noX := Dn.noX
theorem noX_ok {g : Dn.FF} {ds : List PyData} {r : Dn.Rs PyData} (h : noX g ds = some r) : g ds = some r ∧ ∃ d, r = .ok d := by
  unfold noX Dn.noX at h
  split at h
  · cases h
  · rename_i x hx
    refine ⟨h, ?_⟩
    cases r with
    | ok d => exact ⟨d, rfl⟩
    | exc c => exact absurd h (hx c)
/-- a def that lets nothing out -/
theorem rd_call0 {E' : XK} {g : Dn.FF} {t : TA} {n : Nat} {fs : Dn.AF} (h : RdA K cl E t fs) (hn : ∀ ρ ds, fs ρ = some (.ok ds) → ds.length = n) : Rd K cl E (tCall (spF K cl n (noX g)) [] E' t) (Dn.eCall (noX g) fs) := fun B F0 F H σ ρ R r e Q ok ex => by
  rcases bnd_cases e with ⟨a, e1, e2⟩ | ⟨c, e1, rfl⟩
  · refine h B F0 F H σ ρ R _ e1 _ (fun d ed vs F1 H1 x1 w1 => ?_) (fun c ec => by cases ec)
    cases ed
    obtain ⟨_, d0, hd0⟩ := noX_ok e2
    refine ⟨F1, a, r, ?_, x1.s, by rw [List.append_nil]; exact w1, e2, fun d ed v F' H' x q => ok d ed v F' H' (x1.trans x) q, fun c ec => ?_⟩
    · rw [List.append_nil, DpAll_len w1]
      exact hn ρ a e1
    · rw [hd0] at ec; cases ec
  · exact h B F0 F H σ ρ R _ e1 _ (fun d ed => by cases ed) (fun c' ec F' H' x => by cases ec; exact ex c rfl F' H' x)
end
end Dw

set_option maxHeartbeats 4400000
/-! Dv: iterators whose objects are new; iterators that lay a new pair at each turn (by the library's WalksT). -/
namespace Dw
open PySem PySem.Spec PyProof.Rows L2
/-- an iterator has come, all its objects laid behind s -/
theorem pie_new {X : Cx} {pins : List (Addr × Obj)} {σ : L2.St} {H : Hp} {s : Shared} {tg : Expr} {J : It} {fp : List Addr} {it : Addr} {tn : Nat → Heap → Prop} {h1 : Heap} {R : It → Hp → Prop}
    (I : Inv X pins σ H s) (T : Turn X.prog X.w X.K tg J fp it tn) (more : ∀ b o, s.heap.get? b = some o → h1.get? b = some o) (new : ∀ b ∈ fp, s.heap.objs.size ≤ b) (t0 : tn 0 h1) (q : R J H) :
    PIE X pins σ tg R (.ref it) { s with heap := h1 } :=
  ⟨it, fp, tn, J, H, rfl, I.kept (t' := s.toks) more, T, t0, fun b hb => I.fpOk (new b hb) (I.hok.fresh (new b hb)), q⟩
/-- .. one object -/
theorem pie_new1 {X : Cx} {pins : List (Addr × Obj)} {σ : L2.St} {H : Hp} {s : Shared} {tg : Expr} {J : It} {tn : Nat → Heap → Prop} {o : Obj} {R : It → Hp → Prop}
    (I : Inv X pins σ H s) (T : Turn X.prog X.w X.K tg J [s.heap.objs.size] s.heap.objs.size tn) (t0 : tn 0 (s.heap.push o)) (q : R J H) :
    PIE X pins σ tg R (.ref s.heap.objs.size) { s with heap := s.heap.push o } :=
  pie_new I T (fun b ob e => Heap.get?_push_of_some o e) (fun b hb => by rw [List.mem_singleton.mp hb]; exact Nat.le_refl _) t0 q

/-! ### a new pair at each turn -/
/-- n turns over d, which stands in the abstract heap (At): the pairs that row tells -/
def Itp {δ : Type} (At : Hp → δ → Prop) (row : δ → Nat → Option (V × V)) (n : Nat) : It :=
  ⟨fun i H => i < n ∧ ∃ d p, At H d ∧ row d i = some p,
   fun i H v H' => ∃ T p, v = .ref T ∧ H T = none ∧ H' = upd H T (.tup [p.1, p.2]) ∧ ∀ d, At H d → row d i = some p,
   fun i H => n ≤ i ∧ ∃ d, At H d⟩
/-- what stands in the abstract heap is gone through in the heap by a walk of the library's -/
structure Src {δ : Type} (At : Hp → δ → Prop) (row : δ → Nat → Option (V × V)) (n : Nat) (P : Program) (w : World) (A : Around) (it : Addr) (wr : List Addr) (tn : Nat → Heap → Prop) (h : Heap) (d : δ) : Prop where
  walk : ∃ (fw : List Addr) (Pt : Nat → Array Value → Prop) (St : Nat → Heap → Prop) (Mid : Nat → Addr → Heap → Prop), WalksT P w A it fw wr n Pt St Mid ∧ (∀ i, tn i h → St i h) ∧ (∀ i g, i ≤ n → St i g → tn i g) ∧
    ∀ i vals p, row d i = some p → Pt i vals → ∃ u v, vals = #[u, v] ∧ RelV p.1 u ∧ RelV p.2 v
theorem turn_pairs {P : Program} {w : World} {K : PySem.W.Frag} {elts : List Expr} {kk : Nat} {tpos : Pos} {δ : Type} {At : Hp → δ → Prop} {row : δ → Nat → Option (V × V)} {n : Nat} {fp wr : List Addr} {it : Addr} {tn : Nat → Heap → Prop}
    (mem : it ∈ fp) (sub : ∀ b ∈ wr, b ∈ fp) (le : ∀ i h, tn i h → i ≤ n)
    (obj : ∀ i h, tn i h → ∀ b ∈ fp, ∃ o, h.get? b = some o ∧ ∀ v, o.data ≠ .cell v)
    (keep : ∀ i h h', tn i h → (∀ b ∈ fp, ∀ o, h.get? b = some o → h'.get? b = some o) → tn i h')
    (self : ∀ (A : Around) (i : Nat) (s : Shared) (Q : Value → Shared → Prop) (E : Value → Shared → Prop), tn i s.heap → Q (.ref it) s → wpAny (model P w) A (pyIter (.ref it)) Q E s)
    (uni : ∀ (X : Cx) (pins : List (Addr × Obj)) (σ : L2.St) (H : Hp) (s : Shared) (d d' : δ), X.K = K → Inv X pins σ H s → At H d → At H d' → d' = d)
    (src : ∀ (X : Cx), X.K = K → X.calm = true → ∀ (pins : List (Addr × Obj)) (σ : L2.St) (H : Hp) (s : Shared) (d : δ), Inv X pins σ H s → (∀ b ∈ fp, H b = none) → At H d → Src At row n X.prog X.w X.A it wr tn s.heap d) :
    Turn P w K (.Tuple elts kk tpos) (Itp At row n) fp it tn where
  mem := mem
  obj := obj
  keep := keep
  self := self
  item := fun X eP ew eK calm i pins s σ H E I fr st ⟨lt, d, p, hd, hp⟩ => by
    subst eP ew eK
    obtain ⟨fw, Pt, St, Mid, Wk, up, dn, rel⟩ := (src X rfl calm pins σ H s d I (fun b hb => (fr b hb).1) hd).walk
    refine Wk.item i s _ E lt (up i st) fun T vals h1 tk hP far isT mid k1 => ⟨_, rfl, Wk.go elts kk tpos i T { s with heap := h1, toks := tk } _ E mid fun h2 st2 k2 => ?_⟩
    obtain ⟨u, v, rfl, ru, rv⟩ := rel i vals p hp hP
    have isT2 : h2.IsTuple T #[u, v] := isT.at fun o e => k2 T o (Wk.apart i T h1 mid) e
    refine ⟨.ref T, upd H T (.tup [p.1, p.2]), I.turnedNew (t' := tk) (fun b o nb e => k2 b o nb (k1 b o nb e)) (fun b hb => fr b (sub b hb)) far ⟨(by decide : 2 ≤ sizeLine), [u, v], .cons ru (.cons rv .nil), isT2⟩, rfl,
      ⟨T, p, rfl, I.hok.fresh far, rfl, fun d' hd' => by rw [uni X pins σ H s d d' rfl I hd hd']; exact hp⟩, dn (i + 1) h2 lt st2, fun b hb => ?_⟩
    obtain ⟨o, e, _⟩ := obj i s.heap st b hb
    rw [upd_ne (Nat.ne_of_lt (Nat.lt_of_lt_of_le (Heap.lt_size e) far)), (fr b hb).1]
  done := fun X eP ew eK calm i pins s σ H E I fr st ⟨ge, d, hd⟩ => by
    subst eP ew eK
    obtain ⟨fw, Pt, St, Mid, Wk, up, dn, rel⟩ := (src X rfl calm pins σ H s d I (fun b hb => (fr b hb).1) hd).walk
    have at_n : i = n := Nat.le_antisymm (le i _ st) ge
    refine Wk.done s _ E (at_n ▸ up i st) fun h1 tk k1 => ⟨rfl, I.turnedL (t' := tk) k1 fun b hb => fr b (sub b hb)⟩
/-- they walk through the data -/
theorem walk_pairs {K : PySem.W.Frag} {F : Hp} {δ : Type} {At : Hp → δ → Prop} {row : δ → Nat → Option (V × V)} {ds : List PyData} (d : δ) (at_ : ∀ H, Same F H → At H d)
    (rows : ∀ i, i < ds.length → ∃ p x y, row d i = some p ∧ ds[i]? = some (.tuple [x, y]) ∧ Dp K F p.1 x ∧ Dp K F p.2 y) : Walk K (Itp At row ds.length) F ds where
  go := fun i H sm lt => let ⟨p, _, _, hp, _⟩ := rows i lt; ⟨lt, d, p, at_ H sm, hp⟩
  stop := fun i H sm ge => ⟨ge, d, at_ H sm⟩
  yld := fun i F' H x H' s1 s2 ⟨T, p, eT, free, eH, hp⟩ lt => by
    subst eT eH
    obtain ⟨p', x, y, hp', hds, hx, hy⟩ := rows i lt
    obtain rfl : p' = p := Option.some.inj (hp'.symm.trans (hp d (at_ H (s1.trans s2))))
    have sm : Same F (upd F' T (.tup [p'.1, p'.2])) := s1.trans (same_upd (s2.free free))
    exact ⟨_, _, hds, Ext.fresh s2 _ free, .tup (SqT.of upd_same) (.cons (Dp_mono sm hx) (.cons (Dp_mono sm hy) .nil))⟩
/-- data of fields is no cell -/
theorem no_cell {o : Obj} {vs : Array Value} (h : o.data = .fields vs) : ∀ v, o.data ≠ .cell v := fun v e => by rw [h] at e; cases e
end Dw

set_option maxHeartbeats 4400000
/-! Dw2: statements, loops, comprehensions. -/
namespace Dw
open PySem PySem.Spec PyProof.Rows L2
section
variable {K : PySem.W.Frag} {B F0 F H F' H' : Hp} {σ : L2.St} {ρ : Dn.Env}
/-- a list of one's own is changed -/
theorem Rp.updOwn (R : Rp K B F0 F H σ ρ) {i : Nat} {ds ds' : List PyData} {a : Addr} {vs' : List V} (e : ρ[i]? = some (some (.own ds))) (e2 : σ[i]? = some (some (.ref a))) (hB : B a = none) (hF : F a = none) (q : DpAll K F vs' ds') :
    Rp K B F0 F (upd H a (.lst vs')) σ (ρ.set i (some (.own ds'))) := by
  have hl : i < ρ.length := (List.getElem?_eq_some_iff.mp e).1
  have sa : ∀ {G : Hp}, Same G H → G a = none → Same G (upd H a (.lst vs')) := fun {G} s n b o h => by
    rw [upd_ne (ne_of_none h n)]; exact s b o h
  have get : ∀ {j : Nat} {s : Dn.Sl}, (ρ.set i (some (.own ds')))[j]? = some (some s) → (i = j ∧ s = .own ds') ∨ (i ≠ j ∧ ρ[j]? = some (some s)) := fun {j s} h => by
    by_cases hj : i = j
    · subst hj
      rw [List.getElem?_set_self hl] at h
      cases h
      exact .inl ⟨rfl, rfl⟩
    · rw [List.getElem?_set_ne hj] at h
      exact .inr ⟨hj, h⟩
  have nd : ∀ d, Dn.Sl.own ds ≠ .dat d := fun d z => by cases z
  refine ⟨sa R.bh hB, R.ff, sa R.fh hF, R.nb, by rw [List.length_set]; exact R.len, fun j d h => ?_, fun j es h => ?_, fun j es h => ?_, fun j es h => ?_, fun j k b s s' h1 h2 n1 n2 g1 g2 => ?_⟩
  · rcases get h with ⟨_, z⟩ | ⟨_, h⟩
    · cases z
    · exact R.dat j d h
  · rcases get h with ⟨rfl, z⟩ | ⟨hj, h⟩
    · cases z
      exact ⟨a, vs', e2, upd_same, hB, hF, q⟩
    · obtain ⟨b, ws, h1, h2, h3, h4, h5⟩ := R.own j es h
      have hne : b ≠ a := fun z => by
        subst z
        exact hj (R.dist i j b _ _ e h nd (fun d z => by cases z) e2 h1)
      exact ⟨b, ws, h1, by rw [upd_ne hne]; exact h2, h3, h4, h5⟩
  · rcases get h with ⟨rfl, z⟩ | ⟨hj, h⟩
    · cases z
    · obtain ⟨b, ws, h1, h2, h3, h4, h5⟩ := R.ownT j es h
      have hne : b ≠ a := fun z => by
        subst z
        exact hj (R.dist i j b _ _ e h nd (fun d z => by cases z) e2 h1)
      exact ⟨b, ws, h1, by rw [upd_ne hne]; exact h2, h3, h4, h5⟩
  · rcases get h with ⟨rfl, z⟩ | ⟨hj, h⟩
    · cases z
    · exact R.frzT j es h
  · have conv : ∀ {j : Nat} {s : Dn.Sl}, (ρ.set i (some (.own ds')))[j]? = some (some s) → (∀ d, s ≠ .dat d) → ∃ s0 : Dn.Sl, ρ[j]? = some (some s0) ∧ ∀ d, s0 ≠ .dat d := fun {j s} h n => by
      rcases get h with ⟨rfl, z⟩ | ⟨hj, h⟩
      · exact ⟨_, e, nd⟩
      · exact ⟨s, h, n⟩
    obtain ⟨s0, k1, k2⟩ := conv h1 n1
    obtain ⟨s1, k3, k4⟩ := conv h2 n2
    exact R.dist j k b s0 s1 k1 k3 k2 k4 g1 g2
/-- an object that no slot holds is changed -/
theorem Rp.updOut (R : Rp K B F0 F H σ ρ) {a : Addr} (o : HO) (hB : B a = none) (hF : F a = none) (hn : ∀ (i : Nat) (s : Dn.Sl), ρ[i]? = some (some s) → (∀ d, s ≠ .dat d) → σ[i]? ≠ some (some (.ref a))) : Rp K B F0 F (upd H a o) σ ρ := by
  have sa : ∀ {G : Hp}, Same G H → G a = none → Same G (upd H a o) := fun {G} s n b o h => by
    rw [upd_ne (ne_of_none h n)]; exact s b o h
  refine ⟨sa R.bh hB, R.ff, sa R.fh hF, R.nb, R.len, R.dat, fun j es h => ?_, fun j es h => ?_, R.frzT, R.dist⟩
  · obtain ⟨b, ws, h1, h2, h3, h4, h5⟩ := R.own j es h
    have hne : b ≠ a := fun z => by subst z; exact hn j _ h (fun d z => by cases z) h1
    exact ⟨b, ws, h1, by rw [upd_ne hne]; exact h2, h3, h4, h5⟩
  · obtain ⟨b, ws, h1, h2, h3, h4, h5⟩ := R.ownT j es h
    have hne : b ≠ a := fun z => by subst z; exact hn j _ h (fun d z => by cases z) h1
    exact ⟨b, ws, h1, by rw [upd_ne hne]; exact h2, h3, h4, h5⟩
/-- a list of one's own stands still from here on -/
theorem Rp.freeze (R : Rp K B F0 F H σ ρ) {i : Nat} {ds : List PyData} {a : Addr} {vs : List V} (e : ρ[i]? = some (some (.own ds))) (e2 : σ[i]? = some (some (.ref a))) (hH : H a = some (.lst vs)) (hB : B a = none) (hF : F a = none) (q : DpAll K F vs ds) :
    Rp K B F0 (upd F a (.lst vs)) H σ (ρ.set i (some (.dat (.list ds)))) := by
  have hl : i < ρ.length := (List.getElem?_eq_some_iff.mp e).1
  have sF : Same F (upd F a (.lst vs)) := same_upd hF
  have get : ∀ {j : Nat} {s : Dn.Sl}, (ρ.set i (some (.dat (.list ds))))[j]? = some (some s) → (i = j ∧ s = .dat (.list ds)) ∨ (i ≠ j ∧ ρ[j]? = some (some s)) := fun {j s} h => by
    by_cases hj : i = j
    · subst hj
      rw [List.getElem?_set_self hl] at h
      cases h
      exact .inl ⟨rfl, rfl⟩
    · rw [List.getElem?_set_ne hj] at h
      exact .inr ⟨hj, h⟩
  have nd : ∀ d, Dn.Sl.own ds ≠ .dat d := fun d z => by cases z
  refine ⟨R.bh, R.ff.trans sF, fun b o h => ?_, fun b o h => ?_, by rw [List.length_set]; exact R.len, fun j d h => ?_, fun j es h => ?_, fun j es h => ?_, fun j es h => ?_, fun j k b s s' h1 h2 n1 n2 g1 g2 => ?_⟩
  · by_cases hb : b = a
    · subst hb; rw [upd_same] at h; cases h; exact hH
    · rw [upd_ne hb] at h; exact R.fh b o h
  · by_cases hb : b = a
    · subst hb; exact .inr (.inl hB)
    · rw [upd_ne hb] at h; exact R.nb b o h
  · rcases get h with ⟨rfl, z⟩ | ⟨_, h⟩
    · cases z
      exact ⟨.ref a, e2, .lst (SqL.of upd_same) (DpAll_mono sF q)⟩
    · obtain ⟨v, h1, h2⟩ := R.dat j d h
      exact ⟨v, h1, Dp_mono sF h2⟩
  · rcases get h with ⟨rfl, z⟩ | ⟨hj, h⟩
    · cases z
    · obtain ⟨b, ws, h1, h2, h3, h4, h5⟩ := R.own j es h
      have hne : b ≠ a := fun z => by
        subst z
        exact hj (R.dist i j b _ _ e h nd (fun d z => by cases z) e2 h1)
      exact ⟨b, ws, h1, h2, h3, by rw [upd_ne hne]; exact h4, DpAll_mono sF h5⟩
  · rcases get h with ⟨rfl, z⟩ | ⟨hj, h⟩
    · cases z
    · obtain ⟨b, ws, h1, h2, h3, h4, h5⟩ := R.ownT j es h
      have hne : b ≠ a := fun z => by
        subst z
        exact hj (R.dist i j b _ _ e h nd (fun d z => by cases z) e2 h1)
      exact ⟨b, ws, h1, h2, h3, by rw [upd_ne hne]; exact h4, paired_mono h5 fun _ _ q => ⟨q.1, Dp_mono sF q.2⟩⟩
  · rcases get h with ⟨rfl, z⟩ | ⟨hj, h⟩
    · cases z
    · obtain ⟨b, ws, o, h1, h2, h5⟩ := R.frzT j es h
      exact ⟨b, ws, o, h1, h2, paired_mono h5 fun _ _ q => ⟨q.1, Dp_mono sF q.2⟩⟩
  · rcases get h1 with ⟨_, z⟩ | ⟨_, h1⟩
    · exact absurd z (n1 _)
    · rcases get h2 with ⟨_, z⟩ | ⟨_, h2⟩
      · exact absurd z (n2 _)
      · exact R.dist j k b s s' h1 h2 n1 n2 g1 g2
/-- a slot takes a new list -/
theorem Rp.setOwn (R : Rp K B F0 F H σ ρ) {ds : List PyData} {a : Addr} {vs : List V} (hH : H a = some (.lst vs)) (hB : B a = none) (hF : F a = none) (q : DpAll K F vs ds) (hn : ∀ (i : Nat) (s : Dn.Sl), ρ[i]? = some (some s) → (∀ d, s ≠ .dat d) → σ[i]? ≠ some (some (.ref a))) (i : Nat) :
    Rp K B F0 F H (σ.set i (some (.ref a))) (ρ.set i (some (.own ds))) := by
  have get : ∀ {j : Nat} {s : Dn.Sl}, (ρ.set i (some (.own ds)))[j]? = some (some s) → (i = j ∧ s = .own ds ∧ i < ρ.length) ∨ (i ≠ j ∧ ρ[j]? = some (some s)) := fun {j s} h => by
    by_cases hj : i = j
    · subst hj
      have hl : i < ρ.length := by
        obtain ⟨z, _⟩ := List.getElem?_eq_some_iff.mp h
        rw [List.length_set] at z; exact z
      rw [List.getElem?_set_self hl] at h
      cases h
      exact .inl ⟨rfl, rfl, hl⟩
    · rw [List.getElem?_set_ne hj] at h
      exact .inr ⟨hj, h⟩
  have self : i < ρ.length → (σ.set i (some (V.ref a)))[i]? = some (some (V.ref a)) := fun h => List.getElem?_set_self (by rw [R.len]; exact h)
  refine ⟨R.bh, R.ff, R.fh, R.nb, by rw [List.length_set, List.length_set]; exact R.len, fun j d h => ?_, fun j es h => ?_, fun j es h => ?_, fun j es h => ?_, fun j k b s s' h1 h2 n1 n2 g1 g2 => ?_⟩
  · rcases get h with ⟨rfl, z, _⟩ | ⟨hj, h⟩
    · cases z
    · rw [List.getElem?_set_ne hj]; exact R.dat j d h
  · rcases get h with ⟨rfl, z, hl⟩ | ⟨hj, h⟩
    · cases z
      exact ⟨a, vs, self hl, hH, hB, hF, q⟩
    · rw [List.getElem?_set_ne hj]; exact R.own j es h
  · rcases get h with ⟨rfl, z, _⟩ | ⟨hj, h⟩
    · cases z
    · rw [List.getElem?_set_ne hj]; exact R.ownT j es h
  · rcases get h with ⟨rfl, z, _⟩ | ⟨hj, h⟩
    · cases z
    · rw [List.getElem?_set_ne hj]; exact R.frzT j es h
  · rcases get h1 with ⟨rfl, _, hl⟩ | ⟨hj, h1⟩
    · rcases get h2 with ⟨rfl, _, _⟩ | ⟨hk, h2⟩
      · rfl
      · rw [self hl] at g1
        cases g1
        rw [List.getElem?_set_ne hk] at g2
        exact absurd g2 (hn k _ h2 n2)
    · rcases get h2 with ⟨rfl, _, hl⟩ | ⟨hk, h2⟩
      · rw [self hl] at g2
        cases g2
        rw [List.getElem?_set_ne hj] at g1
        exact absurd g1 (hn j _ h1 n1)
      · rw [List.getElem?_set_ne hj] at g1
        rw [List.getElem?_set_ne hk] at g2
        exact R.dist j k b s s' h1 h2 n1 n2 g1 g2
/-- a new address is in no slot that is changed -/
theorem Rp.newOut (R : Rp K B F0 F H σ ρ) {a : Addr} (hn : H a = none) : ∀ (i : Nat) (s : Dn.Sl), ρ[i]? = some (some s) → (∀ d, s ≠ .dat d) → σ[i]? ≠ some (some (.ref a)) := fun i s e n z => by
  cases s with
  | dat d => exact n d rfl
  | own ds =>
    obtain ⟨b, ws, h1, h2, _⟩ := R.own i ds e
    rw [h1] at z
    cases z
    rw [hn] at h2; cases h2
  | ownT ds =>
    obtain ⟨b, ws, h1, h2, _⟩ := R.ownT i ds e
    rw [h1] at z
    cases z
    rw [hn] at h2; cases h2
  | frzT ds =>
    obtain ⟨b, ws, o, h1, h2, _⟩ := R.frzT i ds e
    rw [h1] at z
    cases z
    rw [R.bh _ _ h2] at hn; cases hn
end

section
variable {K : PySem.W.Frag} {cl : Str → Value} {E : XK}
theorem bS_cases {α : Type} {x : Dn.M α} {k : α → Option Dn.SOut} {r : Dn.SOut} (h : Dn.bS x k = some r) : (∃ a, x = some (.ok a) ∧ k a = some r) ∨ ∃ c, x = some (.exc c) ∧ r = .exc c := by
  cases x with
  | none => cases h
  | some y =>
    cases y with
    | ok a => exact .inl ⟨a, rfl, h⟩
    | exc c =>
      have e := Option.some.inj h
      exact .inr ⟨c, rfl, e.symm⟩
theorem Post.unbase {B F0 F1 H1 : Hp} {σ1 : L2.St} {ρ1 : Dn.Env} {D : Ends} {r : Dn.SOut} (R0 : Rp K B F0 F1 H1 σ1 ρ1) (p : Post K cl E B F0 D r) : Post K cl E B F1 D r := by
  cases r with
  | nx ρ' => exact fun F' H' σ' R => p F' H' σ' (R0.unbase R)
  | bk ρ' => exact fun F' H' σ' R => p F' H' σ' (R0.unbase R)
  | ct ρ' => exact fun F' H' σ' R => p F' H' σ' (R0.unbase R)
  | rt d => exact fun v F' H' s1 s2 s3 n q => p v F' H' s1 (R0.ff.trans s2) s3 (fun b o e => (n b o e).elim (R0.nb b o) .inr) q
  | exc c => exact p
theorem rds_next : RdS K cl E tNext Dn.sNx := fun B F0 F H σ ρ R r e D p => by
  cases e
  exact p F H σ R
theorem rds_seq {t u : TS} {f g : Dn.SF} (h1 : RdS K cl E t f) (h2 : RdS K cl E u g) : RdS K cl E (tSeq t u) (Dn.sSeq f g) := fun B F0 F H σ ρ R r e D p => by
  unfold Dn.sSeq at e
  cases hf : f ρ with
  | none => rw [hf] at e; cases e
  | some o =>
    rw [hf] at e
    refine h1 B F0 F H σ ρ R o hf _ ?_
    cases o with
    | nx ρ' => exact fun F' H' σ' R' => h2 B F0 F' H' σ' ρ' R' r e D p
    | rt d => cases e; exact p
    | bk d => cases e; exact p
    | ct d => cases e; exact p
    | exc d => cases e; exact p
theorem rds_if {c : TT} {t u : TS} {fc : Dn.TF} {f g : Dn.SF} (hc : RdT K cl E c fc) (h1 : RdS K cl E t f) (h2 : RdS K cl E u g) : RdS K cl E (tIfS c t u) (Dn.sIf fc f g) := fun B F0 F H σ ρ R r e D p => by
  rcases bS_cases e with ⟨a, e1, e2⟩ | ⟨c, e1, rfl⟩
  · refine hc B F0 F H σ ρ R _ e1 _ (fun b eb F1 H1 x1 => ?_) (fun c ec => by cases ec)
    cases eb
    cases a with
    | true => rw [if_pos rfl] at e2 ⊢; exact h1 B F0 F1 H1 σ ρ (R.ext x1) r e2 D p
    | false => rw [if_neg Bool.false_ne_true] at e2 ⊢; exact h2 B F0 F1 H1 σ ρ (R.ext x1) r e2 D p
  · exact hc B F0 F H σ ρ R _ e1 _ (fun d ed => by cases ed) (fun c' ec F' H' x => by cases ec; exact p H' (R.bh.trans x.h))
theorem rds_ret {t : TE} {f : Dn.EF} (h : Rd K cl E t f) : RdS K cl E (tRet t) (Dn.sRet f) := fun B F0 F H σ ρ R r e D p => by
  rcases bS_cases e with ⟨a, e1, e2⟩ | ⟨c, e1, rfl⟩
  · refine h B F0 F H σ ρ R _ e1 _ (fun d ed v F1 H1 x1 w => ?_) (fun c ec => by cases ec)
    cases ed
    cases e2
    have R1 := R.ext x1
    exact p v F1 H1 R1.bh R1.ff R1.fh R1.nb w
  · exact h B F0 F H σ ρ R _ e1 _ (fun d ed => by cases ed) (fun c' ec F' H' x => by cases ec; exact p H' (R.bh.trans x.h))
theorem rds_retO (i : Nat) : RdS K cl E (tRet (tVar i)) (Dn.sRetO i) := fun B F0 F H σ ρ R r e D p => by
  unfold Dn.sRetO at e
  split at e
  · rename_i ds hd
    cases e
    obtain ⟨a, vs, h1, h2, h3, h4, h5⟩ := R.own i ds hd
    have R1 := R.freeze hd h1 h2 h3 h4 h5
    exact ⟨.ref a, h1, p _ _ H R1.bh R1.ff R1.fh R1.nb (.lst (SqL.of upd_same) (DpAll_mono (same_upd h4) h5))⟩
  · cases e
theorem rds_asg {t : TE} {g : TG} {f : Dn.EF} {fg : Dn.GF} {vs : List Nat} (h : Rd K cl E t f) (hg : RdG K g fg vs) : RdS K cl E (tAsg t g) (Dn.sAsg fg f) := fun B F0 F H σ ρ R r e D p => by
  rcases bS_cases e with ⟨a, e1, e2⟩ | ⟨c, e1, rfl⟩
  · refine h B F0 F H σ ρ R _ e1 _ (fun d ed v F1 H1 x1 w => ?_) (fun c ec => by cases ec)
    cases ed
    obtain ⟨ρ', e3, rfl⟩ := Option.map_eq_some_iff.mp e2
    exact hg B F0 F1 H1 σ ρ v a ρ' (R.ext x1) w e3 _ (fun σ' R' _ => p F1 H1 σ' R')
  · exact h B F0 F H σ ρ R _ e1 _ (fun d ed => by cases ed) (fun c' ec F' H' x => by cases ec; exact p H' (R.bh.trans x.h))
theorem rds_own {t : TE} {f : Dn.EF} (i : Nat) (h : RdN K cl E t f) : RdS K cl E (tAsg t (L2.gName i)) (Dn.sOwn i f) := fun B F0 F H σ ρ R r e D p => by
  rcases bS_cases e with ⟨a, e1, e2⟩ | ⟨c, e1, rfl⟩
  · refine h B F0 F H σ ρ R _ e1 _ (fun d ed b vs ds F1 H1 x1 el na fa ha q => ?_) (fun c ec => by cases ec)
    cases ed
    subst el
    cases e2
    have R1 := R.ext x1
    exact p F1 H1 _ (R1.setOwn ha (R.bh.free na) fa q (R.newOut na) i)
  · exact h B F0 F H σ ρ R _ e1 _ (fun d ed => by cases ed) (fun c' ec F' H' x => by cases ec; exact p H' (R.bh.trans x.h))
theorem rds_move (i j : Nat) : RdS K cl E (tAsg (tVar j) (L2.gName i)) (Dn.sMove i j) := fun B F0 F H σ ρ R r e D p => by
  unfold Dn.sMove at e
  split at e
  · rename_i ds hd
    cases e
    obtain ⟨a, vs, h1, h2, h3, h4, h5⟩ := R.own j ds hd
    have R1 := R.freeze hd h1 h2 h3 h4 h5
    exact ⟨.ref a, h1, p _ H _ (R1.setDat (.lst (SqL.of upd_same) (DpAll_mono (same_upd h4) h5)) i)⟩
  · cases e
theorem rds_app {te : TE} {f : Dn.EF} (i : Nat) (h : Rd K cl E te f) : RdS K cl E (tDrop (tBM K "list" rAppend (tVar i) (tCons te tNil))) (Dn.sApp i f) := fun B F0 F H σ ρ R r e D p => by
  unfold Dn.sApp at e
  split at e
  · rename_i ds hd
    obtain ⟨a, vs, h1, h2, h3, h4, h5⟩ := R.own i ds hd
    refine ⟨.ref a, h1, .inl ⟨rfl, _, SqL.of h2⟩, ?_⟩
    rcases bS_cases e with ⟨d, e1, e2⟩ | ⟨c, e1, rfl⟩
    · refine h B F0 F H σ ρ R _ e1 _ (fun d' ed v F1 H1 x1 w => ?_) (fun c ec => by cases ec)
      cases ed
      split at e2
      · rename_i hlen
        cases e2
        have hl : vs.length = ds.length := DpAll_len h5
        refine ⟨a, vs, v, rfl, rfl, x1.h _ _ h2, by rw [hl]; exact lineM (Nat.le_of_lt hlen), ?_⟩
        exact p F1 _ σ ((R.ext x1).updOwn hd h1 h3 (not_f x1 h2 h4) (DpAll_app (DpAll_mono x1.f h5) (DpAll_one w)))
      · cases e2
    · exact h B F0 F H σ ρ R _ e1 _ (fun d ed => by cases ed) (fun c' ec F' H' x => by cases ec; exact p H' (R.bh.trans x.h))
  · cases e
theorem rds_appOwn (i j : Nat) : RdS K cl E (tDrop (tBM K "list" rAppend (tVar i) (tCons (tVar j) tNil))) (Dn.sAppOwn i j) := fun B F0 F H σ ρ R r e D p => by
  unfold Dn.sAppOwn at e
  split at e
  · rename_i ds es hd he
    split at e
    · rename_i hc
      obtain ⟨hij, hlen⟩ := hc
      cases e
      obtain ⟨a, vs, h1, h2, h3, h4, h5⟩ := R.own i ds hd
      obtain ⟨b, ws, k1, k2, k3, k4, k5⟩ := R.own j es he
      have hl : vs.length = ds.length := DpAll_len h5
      have hne : a ≠ b := fun z => by
        subst z
        exact hij (R.dist i j a _ _ hd he (fun d z => by cases z) (fun d z => by cases z) h1 k1)
      have R1 := R.freeze he k1 k2 k3 k4 k5
      have hd' : (ρ.set j (some (.dat (.list es))))[i]? = some (some (.own ds)) := by
        rw [List.getElem?_set_ne (Ne.symm hij)]; exact hd
      refine ⟨.ref a, h1, .inl ⟨rfl, _, SqL.of h2⟩, .ref b, k1, a, vs, .ref b, rfl, rfl, h2, by rw [hl]; exact lineM (Nat.le_of_lt hlen), ?_⟩
      exact p _ _ σ (R1.updOwn hd' h1 h3 (by rw [upd_ne hne]; exact h4) (DpAll_app (DpAll_mono (same_upd k4) h5) (DpAll_one (.lst (SqL.of upd_same) (DpAll_mono (same_upd k4) k5)))))
    · cases e
  · cases e
theorem rds_ext {te : TE} {f : Dn.EF} (i : Nat) (h : RdN K cl E te f) : RdS K cl E (tDrop (tBM K "list" rExtend (tVar i) (tCons te tNil))) (Dn.sExt i f) := fun B F0 F H σ ρ R r e D p => by
  unfold Dn.sExt at e
  split at e
  · rename_i ds hd
    obtain ⟨a, vs, h1, h2, h3, h4, h5⟩ := R.own i ds hd
    refine ⟨.ref a, h1, .inl ⟨rfl, _, SqL.of h2⟩, ?_⟩
    rcases bS_cases e with ⟨d, e1, e2⟩ | ⟨c, e1, rfl⟩
    · refine h B F0 F H σ ρ R _ e1 _ (fun d' ed b ws es F1 H1 x1 el na fa ha q => ?_) (fun c ec => by cases ec)
      cases ed
      subst el
      simp only at e2
      split at e2
      · rename_i hlen
        cases e2
        have hl : vs.length = ds.length := DpAll_len h5
        have hl2 : ws.length = es.length := DpAll_len q
        refine ⟨a, b, vs, ws, rfl, rfl, x1.h _ _ h2, ha, by rw [hl, hl2]; exact Nat.le_of_lt (lineM hlen), ?_⟩
        exact p F1 _ σ ((R.ext x1).updOwn hd h1 h3 (not_f x1 h2 h4) (DpAll_app (DpAll_mono x1.f h5) q))
      · cases e2
    · exact h B F0 F H σ ρ R _ e1 _ (fun d ed => by cases ed) (fun c' ec F' H' x => by cases ec; exact p H' (R.bh.trans x.h))
  · cases e
theorem ixN_eq (n : Nat) (i : Int) : L2.ixN n i = Dn.ixNat n i := rfl
theorem rds_setIx {tk te : TE} {fk f : Dn.EF} (i : Nat) (h : Rd K cl E te f) (hk : RdW K cl E tk fk) : RdS K cl E (tAsg te (gSub (tVar i) tk rSetL)) (Dn.sSetIx i fk f) := fun B F0 F H σ ρ R r e D p => by
  rcases bS_cases e with ⟨d, e1, e2⟩ | ⟨c, e1, rfl⟩
  · refine h B F0 F H σ ρ R _ e1 _ (fun d' ed v F1 H1 x1 w => ?_) (fun c ec => by cases ec)
    cases ed
    have R1 := R.ext x1
    split at e2
    · rename_i ds hd
      obtain ⟨a, vs, h1, h2, h3, h4, h5⟩ := R.own i ds hd
      refine ⟨.ref a, h1, ?_⟩
      rcases bS_cases e2 with ⟨z, e3, e4⟩ | ⟨c, e3, rfl⟩
      · refine hk B F0 F1 H1 σ ρ R1 _ e3 _ (fun d2 ed2 v2 F2 H2 x2 w2 => ?_) (fun c ec => by cases ec)
        cases ed2
        split at e4
        · rename_i k
          obtain ⟨j, hj, e5⟩ := Option.map_eq_some_iff.mp e4
          subst e5
          have hl : vs.length = ds.length := DpAll_len h5
          have x := x1.trans x2
          refine ⟨a, vs, k, j, rfl, w2.int, x.h _ _ h2, by rw [ixN_eq, hl]; exact hj, ?_⟩
          exact p F2 _ σ ((R1.ext x2).updOwn hd h1 h3 (not_f x h2 h4) (DpAll_set (Dp_mono x2.f w) j (DpAll_mono x.f h5)))
        · cases e4
      · exact hk B F0 F1 H1 σ ρ R1 _ e3 _ (fun d ed => by cases ed) (fun c' ec F' H' x => by cases ec; exact p H' (R1.bh.trans x.h))
    · cases e2
  · exact h B F0 F H σ ρ R _ e1 _ (fun d ed => by cases ed) (fun c' ec F' H' x => by cases ec; exact p H' (R.bh.trans x.h))

/-! ### targets -/
theorem wipe_set {σ : L2.St} {i : Nat} {x : Option V} : ∀ {ws : List Nat}, i ∈ ws → L2.wipe (σ.set i x) ws = L2.wipe σ ws
  | [], h => by cases h
  | w :: ws, h => by
    unfold L2.wipe
    by_cases hw : i ∈ ws
    · rw [wipe_set hw]
    · have e : i = w := by
        rcases List.mem_cons.mp h with z | z
        · exact z
        · exact absurd z hw
      subst e
      have gen : ∀ us : List Nat, i ∉ us → (L2.wipe (σ.set i x) us).set i none = (L2.wipe σ us).set i none := fun us => by
        induction us with
        | nil =>
          intro _
          show (σ.set i x).set i none = σ.set i none
          rw [List.set_set]
        | cons u us ih =>
          intro hu
          have h1 : i ≠ u := fun z => hu (z ▸ List.mem_cons_self)
          have h2 : i ∉ us := fun z => hu (List.mem_cons_of_mem _ z)
          show ((L2.wipe (σ.set i x) us).set u none).set i none = ((L2.wipe σ us).set u none).set i none
          rw [List.set_comm _ _ (Ne.symm h1), ih h2, List.set_comm _ _ h1]
      exact gen ws hw
theorem wipe_wipe {σ : L2.St} : ∀ {vs ws : List Nat}, (∀ i ∈ vs, i ∈ ws) → L2.wipe (L2.wipe σ vs) ws = L2.wipe σ ws
  | [], _, _ => rfl
  | v :: vs, ws, h => by
    show L2.wipe ((L2.wipe σ vs).set v none) ws = L2.wipe σ ws
    rw [wipe_set (h v List.mem_cons_self), wipe_wipe fun i hi => h i (List.mem_cons_of_mem _ hi)]
theorem rdg_name (i : Nat) : RdG K (L2.gName i) (Dn.gName i) [i] := fun B F0 F H σ ρ v d ρ' R q e Q h => by
  cases e
  exact h _ (R.setDat q i) fun ws hw => wipe_set (hw i (List.mem_singleton.mpr rfl))
def RdGs (K : PySem.W.Frag) (t : TGs) (is : List Nat) : Prop := ∀ B F0 F H σ ρ vs ds ρ', Rp K B F0 F H σ ρ → DpAll K F vs ds → Dn.setAll is ds ρ = some ρ' → ∀ Q : L2.St → Hp → Prop,
  (∀ σ', Rp K B F0 F H σ' ρ' → (∀ ws : List Nat, (∀ i ∈ is, i ∈ ws) → L2.wipe σ' ws = L2.wipe σ ws) → Q σ' H) → t vs σ H Q
theorem rdgs_nil : RdGs K gNil [] := fun B F0 F H σ ρ vs ds ρ' R q e Q h => by
  cases q with
  | nil =>
    have e' := Option.some.inj e
    subst e'
    exact ⟨rfl, h σ R fun _ _ => rfl⟩
  | cons _ _ => cases e
theorem rdgs_cons {t : TGs} {is : List Nat} (i : Nat) (h : RdGs K t is) : RdGs K (gCons (L2.gName i) t) (i :: is) := fun B F0 F H σ ρ vs ds ρ' R q e Q k => by
  cases q with
  | nil => cases e
  | cons q1 q2 =>
    refine ⟨_, _, rfl, ?_⟩
    exact h B F0 F H _ _ _ _ ρ' (R.setDat q1 i) q2 e Q fun σ' R' hw => k σ' R' fun ws hi => by
      rw [hw ws fun j hj => hi j (List.mem_cons_of_mem _ hj)]
      exact wipe_set (hi i List.mem_cons_self)
theorem setAll_len : ∀ {is : List Nat} {ds : List PyData} {ρ ρ' : Dn.Env}, Dn.setAll is ds ρ = some ρ' → ds.length = is.length
  | [], [], _, _, _ => rfl
  | i :: is, d :: ds, _, _, h => by
    rw [List.length_cons, List.length_cons, setAll_len (is := is) (ds := ds) h]
  | [], _ :: _, _, _, h => by cases h
  | _ :: _, [], _, _, h => by cases h
theorem rdg_tup {t : TGs} {is : List Nat} {n : Nat} (h : RdGs K t is) (hn : is.length = n := by rfl) : RdG K (L2.gTup K n t) (Dn.gTup is) is := fun B F0 F H σ ρ v d ρ' R q e Q k => by
  cases q with
  | tup hs ha =>
    refine ⟨_, _, rfl, sqt_mono R.fh hs, ?_, h B F0 F H σ ρ _ _ ρ' R ha e Q k⟩
    rw [DpAll_len ha, ← hn]
    exact setAll_len e
  | non => cases e
  | bl b => cases e
  | int i => cases e
  | str x => cases e
  | lst _ _ => cases e

/-! ### loops -/
theorem rds_for {wi : TI} {g : TG} {tb : TS} {fi : Dn.AF} {fg : Dn.GF} {sb : Dn.SF} {gs : List Nat} (hi : RdI K cl E wi fi) (hg : RdG K g fg gs) (hb : RdS K cl E tb sb) : RdS K cl E (tFor wi g tb) (Dn.sFor fi fg sb) := fun B F0 F H σ ρ R r e D p => by
  rcases bS_cases e with ⟨ds, e1, e2⟩ | ⟨c, e1, rfl⟩
  · refine hi B F0 F H σ ρ R _ e1 _ (fun ds' ed J F1 H1 x1 wk => ?_) (fun c ec => by cases ec)
    cases ed
    have R1 := R.ext x1
    have p1 : Post K cl E B F1 D r := p.unbase R1
    refine ⟨fun i m σ' H' => i + m = ds.length ∧ ∃ F' ρ', Rp K B F1 F' H' σ' ρ' ∧ Dn.forL fg sb (ds.drop i) ρ' = some r, ⟨ds.length, by omega, F1, ρ, R1.rebase, e2⟩, ?_⟩
    rintro i m σ' H' ⟨him, F', ρ', R', hf⟩
    by_cases hlt : i < ds.length
    · rw [List.drop_eq_getElem_cons hlt] at hf
      unfold Dn.forL at hf
      cases hg1 : fg ds[i] ρ' with
      | none => rw [hg1] at hf; cases hf
      | some ρ1 =>
        rw [hg1] at hf
        simp only at hf
        cases hb1 : sb ρ1 with
        | none => rw [hb1] at hf; cases hf
        | some o =>
          rw [hb1] at hf
          refine .inr ⟨wk.go i H' (R'.ff.trans R'.fh) hlt, fun σ'' H'' => ∃ F'' ρ'', Rp K B F1 F'' H'' σ'' ρ'' ∧ Dn.forL fg sb (ds.drop (i + 1)) ρ'' = some r, fun σ'' H'' ⟨F'', ρ'', R'', h''⟩ => ⟨m - 1, by omega, by omega, F'', ρ'', R'', h''⟩, fun x H'' hy => ?_⟩
          obtain ⟨d', F'', hd', ex, q⟩ := wk.yld i F' H' x H'' R'.ff R'.fh hy hlt
          have ed : d' = ds[i] := by
            rw [List.getElem?_eq_getElem hlt] at hd'
            exact (Option.some.inj hd').symm
          subst ed
          refine hg B F1 F'' H'' σ' ρ' x _ ρ1 (R'.ext ex) q hg1 _ fun σ2 R2 _ => hb B F1 F'' H'' σ2 ρ1 R2 o hb1 _ ?_
          cases o with
          | nx ρ2 => exact fun F3 H3 σ3 R3 => ⟨F3, ρ2, R3, hf⟩
          | ct ρ2 => exact fun F3 H3 σ3 R3 => ⟨F3, ρ2, R3, hf⟩
          | bk ρ2 =>
            have e3 := Option.some.inj hf
            subst e3
            exact fun F3 H3 σ3 R3 => p1 F3 H3 σ3 R3
          | rt d =>
            have e3 := Option.some.inj hf
            subst e3
            exact p1
          | exc c =>
            have e3 := Option.some.inj hf
            subst e3
            exact p1
    · rw [List.drop_eq_nil_of_le (by omega)] at hf
      have e3 := Option.some.inj hf
      subst e3
      exact .inl ⟨wk.stop i H' (R'.ff.trans R'.fh) (by omega), p1 F' H' σ' R'⟩
  · exact hi B F0 F H σ ρ R _ e1 _ (fun d ed => by cases ed) (fun c' ec F' H' x => by cases ec; exact p H' (R.bh.trans x.h))
theorem rds_while {c : TT} {tb : TS} {fc : Dn.TF} {sb : Dn.SF} (hc : RdT K cl E c fc) (hb : RdS K cl E tb sb) : RdS K cl E (tWhile c tb) (Dn.sWhile fc sb) := fun B F0 F H σ ρ R r e D p => by
  obtain ⟨n, hn⟩ := Dn.of_sWhile e
  refine ⟨fun m σ' H' => ∃ F' ρ', Rp K B F0 F' H' σ' ρ' ∧ Dn.whileN m fc sb ρ' = some r, ⟨n, F, ρ, R, hn⟩, ?_⟩
  rintro m σ' H' ⟨F', ρ', R', hw⟩
  cases m with
  | zero => cases hw
  | succ m =>
    unfold Dn.whileN at hw
    rcases bS_cases hw with ⟨a, e1, e2⟩ | ⟨c, e1, rfl⟩
    · refine hc B F0 F' H' σ' ρ' R' _ e1 _ (fun b eb F1 H1 x1 => ?_) (fun c ec => by cases ec)
      cases eb
      cases a with
      | true =>
        rw [if_pos rfl] at e2 ⊢
        refine ⟨fun σ2 H2 => ∃ F2 ρ2, Rp K B F0 F2 H2 σ2 ρ2 ∧ Dn.whileN m fc sb ρ2 = some r, fun σ2 H2 ⟨F2, ρ2, R2, h2⟩ => ⟨m, Nat.lt_succ_self m, F2, ρ2, R2, h2⟩, ?_⟩
        cases hb1 : sb ρ' with
        | none => rw [hb1] at e2; cases e2
        | some o =>
          rw [hb1] at e2
          refine hb B F0 F1 H1 σ' ρ' (R'.ext x1) o hb1 _ ?_
          cases o with
          | nx ρ2 => exact fun F3 H3 σ3 R3 => ⟨F3, ρ2, R3, e2⟩
          | ct ρ2 => exact fun F3 H3 σ3 R3 => ⟨F3, ρ2, R3, e2⟩
          | bk ρ2 =>
            have e3 := Option.some.inj e2
            subst e3
            exact p
          | rt d =>
            have e3 := Option.some.inj e2
            subst e3
            exact p
          | exc c =>
            have e3 := Option.some.inj e2
            subst e3
            exact p
      | false =>
        rw [if_neg Bool.false_ne_true] at e2 ⊢
        have e3 := Option.some.inj e2
        subst e3
        exact p F1 H1 σ' (R'.ext x1)
    · exact hc B F0 F' H' σ' ρ' R' _ e1 _ (fun d ed => by cases ed) (fun c' ec F2 H2 x => by cases ec; exact p H2 (R'.bh.trans x.h))

/-! ### comprehensions -/
theorem rdn_comp {E2 : XK} {wi : TI} {g : TG} {tt : TT} {te : TE} {vs gs : List Nat} {fi : Dn.AF} {fg : Dn.GF} {ft : Dn.TF} {fe : Dn.EF} (hi : RdI K cl E wi fi) (hg : RdG K g fg gs) (hgs : ∀ i ∈ gs, i ∈ vs) (ht : RdT K cl E2 tt ft) (he : Rd K cl E2 te fe) :
    RdN K cl E (tLc wi g tt te vs) (Dn.eComp fi fg ft fe vs) := fun B F0 F H σ ρ R r e Q ok ex => by
  rcases bnd_cases e with ⟨ds, e1, e2⟩ | ⟨c, e1, rfl⟩
  · refine hi B F0 F H σ ρ R _ e1 _ (fun ds' ed J F1 H1 x1 wk => ?_) (fun c ec => by cases ec)
    cases ed
    have R1 := R.ext x1
    intro A hA
    split at e2
    · rename_i hlen
      rcases bnd_cases e2 with ⟨ys, e3, e4⟩ | ⟨c, e3, rfl⟩
      · cases e4
        have hAB : B A = none := R1.bh.free hA
        have hAF : F1 A = none := x1.s.free hA
        have nA : ∀ (i : Nat) (s : Dn.Sl), (Dn.wipe ρ vs)[i]? = some (some s) → (∀ d, s ≠ .dat d) → (L2.wipe σ vs)[i]? ≠ some (some (.ref A)) := (R1.wipe vs).newOut hA
        refine ⟨fun i m H' => i + m = ds.length ∧ ∃ F' acc zs r', Rp K B F1 F' H' (L2.wipe σ vs) (Dn.wipe ρ vs) ∧ H' A = some (.lst acc) ∧ F' A = none ∧ DpAll K F' acc zs ∧ Dn.compL fg ft fe (Dn.wipe ρ vs) (ds.drop i) = some (.ok r') ∧ zs ++ r' = ys ∧ Same H1 H' ∧ (∀ b o, F' b = some o → F1 b = some o ∨ H1 b = none ∨ ∃ xs, o = .tup xs) ∧ acc.length ≤ i,
          ⟨ds.length, by omega, F1, [], [], ys, ((R1.rebase).wipe vs).updOut _ hAB hAF nA, upd_same, hAF, .nil, e3, rfl, same_upd hA, fun _ _ q => .inl q, Nat.le_refl _⟩, ?_⟩
        rintro i m H' ⟨him, F', acc, zs, r', R', hacc, hFA, hq, hc, hz, sm, nw, hal⟩
        by_cases hlt : i < ds.length
        · rw [List.drop_eq_getElem_cons hlt] at hc
          unfold Dn.compL at hc
          cases hg1 : fg ds[i] (Dn.wipe ρ vs) with
          | none => rw [hg1] at hc; cases hc
          | some ρ1 =>
            rw [hg1] at hc
            simp only at hc
            refine .inr ⟨wk.go i H' (R'.ff.trans R'.fh) hlt, fun H'' => ∃ F' acc zs r', Rp K B F1 F' H'' (L2.wipe σ vs) (Dn.wipe ρ vs) ∧ H'' A = some (.lst acc) ∧ F' A = none ∧ DpAll K F' acc zs ∧ Dn.compL fg ft fe (Dn.wipe ρ vs) (ds.drop (i + 1)) = some (.ok r') ∧ zs ++ r' = ys ∧ Same H1 H'' ∧ (∀ b o, F' b = some o → F1 b = some o ∨ H1 b = none ∨ ∃ xs, o = .tup xs) ∧ acc.length ≤ i + 1,
              fun H'' h'' => ⟨m - 1, by omega, by omega, h''⟩, fun x H2 hy => ?_⟩
            obtain ⟨d', F2, hd', x2, q⟩ := wk.yld i F' H' x H2 R'.ff R'.fh hy hlt
            have ed : d' = ds[i] := by
              rw [List.getElem?_eq_getElem hlt] at hd'
              exact (Option.some.inj hd').symm
            subst ed
            have R2 := R'.ext x2
            refine hg B F1 F2 H2 _ _ x _ ρ1 R2 q hg1 _ fun σ2 R3 hw => ⟨?_, ?_⟩
            · rw [hw vs hgs]
              exact wipe_wipe fun _ h => h
            · cases ht1 : ft ρ1 with
              | none => rw [ht1] at hc; cases hc
              | some o =>
                rw [ht1] at hc
                cases o with
                | exc c => cases hc
                | ok b =>
                  refine ht B F1 F2 H2 σ2 ρ1 R3 _ ht1 _ (fun b' eb F3 H3 x3 => ?_) (fun c ec => by cases ec)
                  cases eb
                  cases b with
                  | true =>
                    rw [if_pos rfl]
                    simp only at hc
                    cases he1 : fe ρ1 with
                    | none => rw [he1] at hc; cases hc
                    | some o =>
                      rw [he1] at hc
                      cases o with
                      | exc c => cases hc
                      | ok y =>
                        rcases bnd_cases hc with ⟨r2, e5, e6⟩ | ⟨c, _, e6⟩
                        · cases e6
                          refine he B F1 F3 H3 σ2 ρ1 (R3.ext x3) _ he1 _ (fun y' ey v F4 H4 x4 q4 => ?_) (fun c ec => by cases ec)
                          cases ey
                          have xx := (x2.trans x3).trans x4
                          have hA4 : H4 A = some (.lst acc) := xx.h _ _ hacc
                          have hF4 : F4 A = none := not_f xx hacc hFA
                          refine ⟨acc, hA4, lineM (by omega), F4, acc ++ [v], zs ++ [y], r2, ((R'.ext xx).updOut _ hAB hF4 nA), upd_same, hF4, DpAll_app (DpAll_mono xx.f hq) (DpAll_one q4), e5, by rw [List.append_assoc]; exact hz, fun b o hb => ?_, fun b o hb => ?_, ?_⟩
                          · have hne : b ≠ A := ne_of_none hb hA
                            rw [upd_ne hne]
                            exact xx.h _ _ (sm b o hb)
                          · rcases xx.n b o hb with z | z | z
                            · exact nw b o z
                            · exact .inr (.inl (sm.free z))
                            · exact .inr (.inr z)
                          · rw [List.length_append, List.length_singleton]
                            omega
                        · cases e6
                  | false =>
                    rw [if_neg Bool.false_ne_true]
                    simp only at hc
                    have xx := x2.trans x3
                    exact ⟨F3, acc, zs, r', R'.ext xx, xx.h _ _ hacc, not_f xx hacc hFA, DpAll_mono xx.f hq, hc, hz, sm.trans xx.h, fun b o hb => by
                      rcases xx.n b o hb with z | z | z
                      · exact nw b o z
                      · exact .inr (.inl (sm.free z))
                      · exact .inr (.inr z), by omega⟩
        · rw [List.drop_eq_nil_of_le (by omega)] at hc
          have e5 : r' = [] := by
            have z := Option.some.inj hc
            cases z; rfl
          subst e5
          rw [List.append_nil] at hz
          subst hz
          refine .inl ⟨wk.stop i H' (R'.ff.trans R'.fh) (by omega), ok _ rfl A acc zs F' H' ⟨x1.f.trans R'.ff, R'.fh, x1.h.trans sm, fun b o hb => ?_⟩ rfl (x1.h.free hA) hFA hacc hq⟩
          rcases nw b o hb with z | z | z
          · exact x1.n b o z
          · exact .inr (.inl (x1.h.free z))
          · exact .inr (.inr z)
      · exact absurd e3 (fun z => by
          have none_exc : ∀ (l : List PyData) (ρ0 : Dn.Env), Dn.compL fg ft fe ρ0 l ≠ some (.exc c) := fun l ρ0 => by
            induction l with
            | nil => intro h; cases h
            | cons d l ih =>
              intro h
              unfold Dn.compL at h
              cases h1 : fg d ρ0 with
              | none => rw [h1] at h; cases h
              | some ρ1 =>
                rw [h1] at h
                simp only at h
                cases h2 : ft ρ1 with
                | none => rw [h2] at h; cases h
                | some o =>
                  rw [h2] at h
                  cases o with
                  | exc c => cases h
                  | ok b =>
                    cases b with
                    | true =>
                      simp only at h
                      cases h3 : fe ρ1 with
                      | none => rw [h3] at h; cases h
                      | some o2 =>
                        rw [h3] at h
                        cases o2 with
                        | exc c => cases h
                        | ok y =>
                          rcases bnd_cases h with ⟨r2, _, e6⟩ | ⟨c', e5, e6⟩
                          · cases e6
                          · cases e6; exact ih e5
                    | false =>
                      simp only at h
                      exact ih h
          exact none_exc _ _ z)
    · cases e2
  · exact hi B F0 F H σ ρ R _ e1 _ (fun d ed => by cases ed) (fun c' ec F' H' x => by cases ec; exact ex c rfl F' H' x)
end
end Dw

set_option maxHeartbeats 4400000
/-! Dw3: the built-in operators and functions, by data. -/
namespace Dw
open PySem PySem.Spec PyProof.Rows L2
section
variable {X : Cx}
theorem DpAll_nil {K : PySem.W.Frag} {F : Hp} {vs : List V} {ds : List PyData} (h : DpAll K F vs ds) (e : vs = []) : ds = [] := by
  subst e
  cases h
  rfl
/-- list + list -/
def rCatS (K : PySem.W.Frag) : R2 := fun x y H Q => ∃ l b xs zs, x = .ref l ∧ y = .ref b ∧ SqL K H l xs ∧ SqL K H b zs ∧ xs.length + zs.length ≤ sizeLine ∧ ∀ p, H p = none → Q (.ref p) (upd H p (.lst (xs ++ zs)))
theorem op_catS : OpR X (binaryOp .Add) (rCatS X.K) := by
  intro pins s σ H x y v u Q I rx ry h
  obtain ⟨l, b, xs, zs, rfl, rfl, hH, hB, hz, q⟩ := h
  cases rx
  cases ry
  obtain ⟨its, r, pl, _⟩ := I.list hH
  obtain ⟨its2, r2, pl2, _⟩ := I.list hB
  obtain ⟨⟨cls, dd, data, sl⟩, ho, hc, n, hd⟩ := pl.isList
  obtain ⟨⟨cls2, dd2, data2, sl2⟩, ho2, hc2, n2, hd2⟩ := pl2.isList
  simp only at hc hd hc2 hd2
  subst hc hd hc2 hd2
  have h1 := r.length
  have h2 := r2.length
  have e : its.toArray ++ its2.toArray = (its ++ its2).toArray := by simp
  refine concat_meets ⟨_, ho, rfl⟩ ⟨_, ho2, rfl⟩ noFill_list_add seq_list_add PySem.F.slot_list_add PySem.F.entry_list_add (PySem.F.args_list_add_2 _ _) (list_addW l b its.toArray its2.toArray n n2 dd dd2 sl sl2 (by simp only [List.size_toArray]; omega)) ⟨ho, ho2, ?_⟩
  rw [e]
  exact ⟨.ref _, _, I.lnew (t' := s.toks) (r.append r2) (by rw [List.length_append]; omega), rfl, q _ I.fresh⟩
theorem op_addX : OpR X (binaryOp .Add) (rD2 X.K Dn.addD) := by
  intro pins s σ H x y v u Q I rx ry h
  obtain ⟨F, d, e, r, hs, wx, wy, hg, q⟩ := h
  unfold Dn.addD at hg
  split at hg
  · rename_i a b
    cases hg
    have h1 := wx.int
    have h2 := wy.int
    subst h1 h2
    exact op_add pins s σ H _ _ v u Q I rx ry ⟨a, b, rfl, rfl, q _ F H (Ext.refl hs) (.int _)⟩
  · rename_i a b
    split at hg
    · rename_i hl
      cases hg
      have h1 := wx.str
      have h2 := wy.str
      subst h1 h2
      exact op_add_str pins s σ H _ _ v u Q I rx ry ⟨a, b, rfl, rfl, hl, q _ F H (Ext.refl hs) (.str _)⟩
    · cases hg
  · rename_i a b
    split at hg
    · rename_i hl
      cases hg
      obtain ⟨p, vs, rfl, h1, h2⟩ := wx.tuple
      obtain ⟨p', ws, rfl, h3, h4⟩ := wy.tuple
      have l1 := DpAll_len h2
      have l2 := DpAll_len h4
      refine op_catA pins s σ H _ _ v u Q I rx ry ⟨p, p', vs, ws, rfl, rfl, sqt_mono hs h1, sqt_mono hs h3, by omega, fun e0 => ?_, fun e0 e1 => ?_, fun e0 e1 t ht => ?_⟩
      · have e2 := DpAll_nil h2 e0
        subst e2
        exact q _ F H (Ext.refl hs) (.tup h3 h4)
      · have e2 := DpAll_nil h4 e1
        subst e2
        rw [List.append_nil] at q
        exact q _ F H (Ext.refl hs) (.tup h1 h2)
      · exact q _ _ _ (Ext.fresh hs _ ht) (.tup (SqT.of upd_same) (DpAll_mono (same_upd (hs.free ht)) (DpAll_app h2 h4)))
    · cases hg
  · rename_i a b
    split at hg
    · rename_i hl
      cases hg
      obtain ⟨p, vs, rfl, h1, h2⟩ := wx.list hs
      obtain ⟨p', ws, rfl, h3, h4⟩ := wy.list hs
      have l1 := DpAll_len h2
      have l2 := DpAll_len h4
      refine op_catS pins s σ H _ _ v u Q I rx ry ⟨p, p', vs, ws, rfl, rfl, h1, h3, by omega, fun t ht => ?_⟩
      exact q _ _ _ (Ext.fresh hs _ ht) (.lst (SqL.of upd_same) (DpAll_mono (same_upd (hs.free ht)) (DpAll_app h2 h4)))
    · cases hg
  · cases hg
theorem op_subX : OpR X (binaryOp .Sub) (rD2 X.K Dn.subD) := by
  intro pins s σ H x y v u Q I rx ry h
  obtain ⟨F, d, e, r, hs, wx, wy, hg, q⟩ := h
  unfold Dn.subD at hg
  split at hg
  · rename_i a b
    cases hg
    have h1 := wx.int
    have h2 := wy.int
    subst h1 h2
    exact op_sub pins s σ H _ _ v u Q I rx ry ⟨a, b, rfl, rfl, q _ F H (Ext.refl hs) (.int _)⟩
  · cases hg
theorem small_of {i : Int} (h : Dn.smallI i = true) : -(2 ^ 64) < i ∧ i < 2 ^ 64 := by
  unfold Dn.smallI at h
  simp only [Bool.and_eq_true, decide_eq_true_eq] at h
  exact h
/-- t * 1 is t -/
theorem tuple_mul1 (l : Addr) (items : Array Value) (n : Nat) (dd : Option Addr) (sl : Array (Option Value)) (u : Tok) :
    Meets (Builtin.«tuple.__mul__» ⟨[.ref l, .int 1 u], []⟩) (fun _ R s => s.heap.get? l = some { cls := .type "tuple", dict := dd, data := .seq items n, slots := sl } ∧
      R (.ok (.ret (Value.ref l))) s) :=
  .of_wp fun prog w A R s h => by
    obtain ⟨hp, g, d, tk, os⟩ := s
    obtain ⟨hl, h⟩ := h
    have f1 := AutoSeq1.idx_int
    wp_walk using wpAny_loadPart' hl
    repeat (first
      | (refine wpAny_ite_false (decide_eq_false (by decide)) ?_; wp_walk using wpAny_loadPart' hl)
      | (refine wpAny_ite_true (decide_eq_true (by simp)) ?_; wp_walk using wpAny_loadPart' hl))
    exact ⟨_, rfl, h⟩
theorem op_rep1 {K : PySem.W.Frag} (hK : X.K = K) : OpR X (binaryOp .Mult) (fun x y H Q => ∃ l xs, x = .ref l ∧ y = .int 1 ∧ SqT K H l xs ∧ Q (.ref l) H) := by
  subst hK
  intro pins s σ H x y v u Q I rx ry h
  obtain ⟨l, xs, rfl, rfl, hT, q⟩ := h
  cases rx
  obtain ⟨t, rfl⟩ := ry
  obtain ⟨its, r, ⟨⟨cls, dd, data, sl⟩, ho, hc, n, hd⟩, hs⟩ := I.tuple hT.l2
  simp only at hc hd
  subst hc hd
  exact wpAny_binaryOp_repeat_ref (T := "tuple") (U := "int") (by decide) ⟨_, ho, rfl⟩ (fun s' => typeIs_int s' 1 t) noFill_tuple_mul F.fills_int_mul F.slot_int_rmul repeat_tuple F.slot_int_index.lookup
    (call_meets F.slot_int_rmul (typeIs_int s 1 t) F.entry_int_rmul (F.args_int_rmul_2 _ _) (int_rmul_tuple 1 t l its.toArray n dd sl)
      ⟨ho, rfl, ⟨_, ho, rfl⟩, call_meets F.slot_tuple_mul ⟨_, ho, rfl⟩ F.entry_tuple_mul (F.args_tuple_mul_2 _ _) (tuple_mul1 l its.toArray n dd sl t) ⟨ho, .ref l, H, I, rfl, q⟩⟩)
theorem op_mulX : OpR X (binaryOp .Mult) (rD2 X.K Dn.mulD) := by
  intro pins s σ H x y v u Q I rx ry h
  obtain ⟨F, d, e, r, hs, wx, wy, hg, q⟩ := h
  unfold Dn.mulD at hg
  split at hg
  · rename_i a b
    split at hg
    · rename_i hb
      cases hg
      have h1 := wx.int
      have h2 := wy.int
      subst h1 h2
      refine op_mul pins s σ H _ _ v u Q I rx ry ⟨a, b, rfl, rfl, ?_, q _ F H (Ext.refl hs) (.int _)⟩
      rcases Bool.or_eq_true_iff.mp hb with z | z
      · exact .inl (small_of z)
      · exact .inr (small_of z)
    · cases hg
  · rename_i a k
    split at hg
    · rename_i hc
      obtain ⟨hk1, hk2, hl, hne⟩ := hc
      cases hg
      obtain ⟨p, vs, rfl, h1, h2⟩ := wx.tuple
      have h3 := wy.int
      subst h3
      have l1 := DpAll_len h2
      by_cases h1k : k = 1
      · subst h1k
        refine op_rep1 rfl pins s σ H _ _ v u Q I rx ry ⟨p, vs, rfl, rfl, sqt_mono hs h1, q _ F H (Ext.refl hs) ?_⟩
        have e1 : Dn.repL (1 : Int).toNat a = a := by
          show (List.replicate 1 a).flatten = a
          simp
        rw [e1]
        exact .tup h1 h2
      · refine op_repT pins s σ H _ _ v u Q I rx ry ⟨p, k, vs, rfl, rfl, sqt_mono hs h1, fun z => hne (DpAll_nil h2 z), by omega, hk2, by omega, fun t ht => ?_⟩
        exact q _ _ _ (Ext.fresh hs _ ht) (.tup (SqT.of upd_same) (DpAll_mono (same_upd (hs.free ht)) (DpAll_rep h2 k.toNat)))
    · cases hg
  · cases hg
theorem op_modX : OpR X (binaryOp .Mod) (rD2 X.K Dn.modD) := by
  intro pins s σ H x y v u Q I rx ry h
  obtain ⟨F, d, e, r, hs, wx, wy, hg, q⟩ := h
  unfold Dn.modD at hg
  split at hg
  · rename_i a b
    split at hg
    · rename_i hb
      cases hg
      have h1 := wx.int
      have h2 := wy.int
      subst h1 h2
      exact op_mod pins s σ H _ _ v u Q I rx ry ⟨a, b, rfl, rfl, hb, q _ F H (Ext.refl hs) (.int _)⟩
    · cases hg
  · cases hg
theorem op_fdivX : OpR X (binaryOp .FloorDiv) (rD2 X.K Dn.fdivD) := by
  intro pins s σ H x y v u Q I rx ry h
  obtain ⟨F, d, e, r, hs, wx, wy, hg, q⟩ := h
  unfold Dn.fdivD at hg
  split at hg
  · rename_i a b
    split at hg
    · rename_i hb
      cases hg
      have h1 := wx.int
      have h2 := wy.int
      subst h1 h2
      exact op_fdiv pins s σ H _ _ v u Q I rx ry ⟨a, b, rfl, rfl, hb, q _ F H (Ext.refl hs) (.int _)⟩
    · cases hg
  · cases hg
theorem op_powX : OpR X (binaryOp .Pow) (rD2 X.K Dn.powD) := by
  intro pins s σ H x y v u Q I rx ry h
  obtain ⟨F, d, e, r, hs, wx, wy, hg, q⟩ := h
  unfold Dn.powD at hg
  split at hg
  · rename_i a b
    split at hg
    · rename_i hb
      cases hg
      have h1 := wx.int
      have h2 := wy.int
      subst h1 h2
      exact op_pow pins s σ H _ _ v u Q I rx ry ⟨a, b, rfl, rfl, ⟨hb.1, by omega, hb.2.2⟩, q _ F H (Ext.refl hs) (.int _)⟩
    · cases hg
  · cases hg
theorem un_negX : UnR X (unaryOp .USub) (rD1 X.K Dn.negD) := by
  intro pins s σ H x v Q I rx h
  obtain ⟨F, d, r, hs, wx, hg, q⟩ := h
  unfold Dn.negD at hg
  split at hg
  · rename_i a
    cases hg
    have h1 := wx.int
    subst h1
    exact un_neg pins s σ H _ v Q I rx ⟨a, rfl, q _ F H (Ext.refl hs) (.int _)⟩
  · cases hg
/-! ### comparisons -/
theorem okD_of {d : PyData} (h : Dn.okD d = true) : d.plain = true ∧ d.depth ≤ 50 := by
  unfold Dn.okD at h
  simp only [Bool.and_eq_true, decide_eq_true_eq] at h
  exact h
theorem op_eqX (hu : X.A.units + 64 < cLine) : OpR X (compareOp .Eq) (rD2 X.K Dn.eqD) := by
  intro pins s σ H x y v u Q I rx ry h
  obtain ⟨F, d, e, r, hs, wx, wy, hg, q⟩ := h
  unfold Dn.eqD at hg
  split at hg
  · rename_i hc
    cases hg
    obtain ⟨c1, c2⟩ := Bool.and_eq_true_iff.mp hc
    obtain ⟨as, r1⟩ := Dp.reads I d x v (wx.dp hs) rx
    obtain ⟨bs, r2⟩ := Dp.reads I e y u (wy.dp hs) ry
    have := (okD_of c1).2
    have := Nat.min_le_left d.depth e.depth
    exact PySem.SeqAt.eq_plain r1 r2 (okD_of c1).1 (okD_of c2).1 (by omega) ⟨.bl _, H, I, rfl, q _ F H (Ext.refl hs) (.bl _)⟩
  · cases hg
theorem op_neX (hu : X.A.units + 64 < cLine) : OpR X (compareOp .NotEq) (rD2 X.K Dn.neD) := by
  intro pins s σ H x y v u Q I rx ry h
  obtain ⟨F, d, e, r, hs, wx, wy, hg, q⟩ := h
  unfold Dn.neD at hg
  split at hg
  · rename_i hc
    cases hg
    obtain ⟨c1, c2⟩ := Bool.and_eq_true_iff.mp hc
    obtain ⟨as, r1⟩ := Dp.reads I d x v (wx.dp hs) rx
    obtain ⟨bs, r2⟩ := Dp.reads I e y u (wy.dp hs) ry
    have := (okD_of c1).2
    have := Nat.min_le_left d.depth e.depth
    exact PySem.SeqAt.ne_plain r1 r2 (okD_of c1).1 (okD_of c2).1 (by omega) ⟨.bl _, H, I, rfl, q _ F H (Ext.refl hs) (.bl _)⟩
  · cases hg
theorem cmpOk_of {a b : PyData} (h : Dn.cmpOk a b = true) : PySem.W.alike a b = true ∧ min a.depth b.depth ≤ 50 ∧ a ≠ .none := by
  unfold Dn.cmpOk at h
  simp only [Bool.and_eq_true, decide_eq_true_eq] at h
  refine ⟨h.1.1, h.1.2, fun z => ?_⟩
  subst z
  have := h.2
  cases this
theorem op_ltX (hu : X.A.units + 64 < cLine) : OpR X (compareOp .Lt) (rD2 X.K Dn.ltD) := by
  intro pins s σ H x y v u Q I rx ry h
  obtain ⟨F, d, e, r, hs, wx, wy, hg, q⟩ := h
  unfold Dn.ltD at hg
  split at hg
  · rename_i hc
    cases hg
    obtain ⟨c1, c2, c3⟩ := cmpOk_of hc
    obtain ⟨as, r1⟩ := Dp.reads I d x v (wx.dp hs) rx
    obtain ⟨bs, r2⟩ := Dp.reads I e y u (wy.dp hs) ry
    exact PySem.W.lt_data r1 r2 c1 c3 (by omega) ⟨.bl _, H, I, rfl, q _ F H (Ext.refl hs) (.bl _)⟩
  · cases hg
theorem op_gtX (hu : X.A.units + 64 < cLine) : OpR X (compareOp .Gt) (rD2 X.K Dn.gtD) := by
  intro pins s σ H x y v u Q I rx ry h
  obtain ⟨F, d, e, r, hs, wx, wy, hg, q⟩ := h
  unfold Dn.gtD at hg
  split at hg
  · rename_i hc
    cases hg
    obtain ⟨c1, c2, c3⟩ := cmpOk_of hc
    obtain ⟨as, r1⟩ := Dp.reads I d x v (wx.dp hs) rx
    obtain ⟨bs, r2⟩ := Dp.reads I e y u (wy.dp hs) ry
    exact PySem.W.gt_data r1 r2 c1 c3 (by omega) ⟨.bl _, H, I, rfl, q _ F H (Ext.refl hs) (.bl _)⟩
  · cases hg
theorem op_leX (hu : X.A.units + 64 < cLine) : OpR X (compareOp .LtE) (rD2 X.K Dn.leD) := by
  intro pins s σ H x y v u Q I rx ry h
  obtain ⟨F, d, e, r, hs, wx, wy, hg, q⟩ := h
  unfold Dn.leD at hg
  split at hg
  · rename_i hc
    cases hg
    obtain ⟨c1, c2, c3⟩ := cmpOk_of hc
    obtain ⟨as, r1⟩ := Dp.reads I d x v (wx.dp hs) rx
    obtain ⟨bs, r2⟩ := Dp.reads I e y u (wy.dp hs) ry
    exact PySem.W.le_data r1 r2 c1 c3 (by omega) ⟨.bl _, H, I, rfl, q _ F H (Ext.refl hs) (.bl _)⟩
  · cases hg
theorem op_geX (hu : X.A.units + 64 < cLine) : OpR X (compareOp .GtE) (rD2 X.K Dn.geD) := by
  intro pins s σ H x y v u Q I rx ry h
  obtain ⟨F, d, e, r, hs, wx, wy, hg, q⟩ := h
  unfold Dn.geD at hg
  split at hg
  · rename_i hc
    cases hg
    obtain ⟨c1, c2, c3⟩ := cmpOk_of hc
    obtain ⟨as, r1⟩ := Dp.reads I d x v (wx.dp hs) rx
    obtain ⟨bs, r2⟩ := Dp.reads I e y u (wy.dp hs) ry
    exact PySem.W.ge_data r1 r2 c1 c3 (by omega) ⟨.bl _, H, I, rfl, q _ F H (Ext.refl hs) (.bl _)⟩
  · cases hg
theorem op_inX (hu : X.A.units + 64 < cLine) : OpR X (compareOp .In) (rD2 X.K Dn.inD) := by
  intro pins s σ H x y v u Q I rx ry h
  obtain ⟨F, d, e, r, hs, wx, wy, hg, q⟩ := h
  unfold Dn.inD at hg
  split at hg
  · rename_i xs
    split at hg
    · rename_i hc
      cases hg
      obtain ⟨c1, c2⟩ := Bool.and_eq_true_iff.mp hc
      obtain ⟨as, r1⟩ := Dp.reads I d x v (wx.dp hs) rx
      obtain ⟨bs, r2⟩ := Dp.reads I _ y u (wy.dp hs) ry
      have := (okD_of c2).2
      have := Nat.min_le_right (PyData.depthAll xs) d.depth
      exact PySem.SeqAt.in_list_data r2 r1 c1 (okD_of c2).1 (by omega) ⟨.bl _, H, I, rfl, q _ F H (Ext.refl hs) (.bl _)⟩
    · cases hg
  · rename_i xs
    split at hg
    · rename_i hc
      cases hg
      obtain ⟨c1, c2⟩ := Bool.and_eq_true_iff.mp hc
      obtain ⟨as, r1⟩ := Dp.reads I d x v (wx.dp hs) rx
      obtain ⟨bs, r2⟩ := Dp.reads I _ y u (wy.dp hs) ry
      have := (okD_of c2).2
      have := Nat.min_le_right (PyData.depthAll xs) d.depth
      exact PySem.SeqAt.in_tuple_data r2 r1 c1 (okD_of c2).1 (by omega) ⟨.bl _, H, I, rfl, q _ F H (Ext.refl hs) (.bl _)⟩
    · cases hg
  · rename_i i j
    cases hg
    have h1 := wx.str
    have h2 := wy.str
    subst h1 h2
    exact op_in_str pins s σ H _ _ v u Q I rx ry ⟨i, j, rfl, rfl, q _ F H (Ext.refl hs) (.bl _)⟩
  · cases hg
theorem op_notInX (hu : X.A.units + 64 < cLine) : OpR X (compareOp .NotIn) (rD2 X.K Dn.inN) := by
  intro pins s σ H x y v u Q I rx ry h
  obtain ⟨F, d, e, r, hs, wx, wy, hg, q⟩ := h
  obtain ⟨r0, hg0, hn⟩ := Option.bind_eq_some_iff.mp hg
  clear hg
  unfold Dn.inD at hg0
  have hg := hg0
  clear hg0
  split at hg
  · rename_i xs
    split at hg
    · rename_i hc
      cases hg
      cases hn
      obtain ⟨c1, c2⟩ := Bool.and_eq_true_iff.mp hc
      obtain ⟨as, r1⟩ := Dp.reads I d x v (wx.dp hs) rx
      obtain ⟨bs, r2⟩ := Dp.reads I _ y u (wy.dp hs) ry
      have := (okD_of c2).2
      have := Nat.min_le_right (PyData.depthAll xs) d.depth
      exact PySem.SeqAt.notIn_list_data r2 r1 c1 (okD_of c2).1 (by omega) ⟨.bl _, H, I, rfl, q _ F H (Ext.refl hs) (.bl _)⟩
    · cases hg
  · rename_i xs
    split at hg
    · rename_i hc
      cases hg
      cases hn
      obtain ⟨c1, c2⟩ := Bool.and_eq_true_iff.mp hc
      obtain ⟨as, r1⟩ := Dp.reads I d x v (wx.dp hs) rx
      obtain ⟨bs, r2⟩ := Dp.reads I _ y u (wy.dp hs) ry
      have := (okD_of c2).2
      have := Nat.min_le_right (PyData.depthAll xs) d.depth
      exact PySem.SeqAt.notIn_tuple_data r2 r1 c1 (okD_of c2).1 (by omega) ⟨.bl _, H, I, rfl, q _ F H (Ext.refl hs) (.bl _)⟩
    · cases hg
  · rename_i i j
    cases hg
    cases hn
    have h1 := wx.str
    have h2 := wy.str
    subst h1 h2
    exact L2.op_notin_str pins s σ H _ _ v u Q I rx ry ⟨i, j, rfl, rfl, q _ F H (Ext.refl hs) (.bl _)⟩
  · cases hg

/-! ### built-in functions -/
theorem W.seq {K : PySem.W.Frag} {F H : Hp} {v : V} {d : PyData} {ds : List PyData} (s : Same F H) (w : W K F H v d) (e : Dn.seqOf d = some ds) : ∃ a vs, v = .ref a ∧ ((d = .list ds ∧ SqL K H a vs) ∨ (d = .tuple ds ∧ SqT K F a vs)) ∧ DpAll K F vs ds := by
  cases d with
  | list xs =>
    cases e
    obtain ⟨a, vs, h1, h2, h3⟩ := w.list s
    exact ⟨a, vs, h1, .inl ⟨rfl, h2⟩, h3⟩
  | tuple xs =>
    cases e
    obtain ⟨a, vs, h1, h2, h3⟩ := w.tuple
    exact ⟨a, vs, h1, .inr ⟨rfl, h2⟩, h3⟩
  | none => cases e
  | bool b => cases e
  | int b => cases e
  | str b => cases e
  | dict b => cases e
theorem cr_lenX : CallR X (.builtin "len") (rDC1 X.K Dn.lenD) := by
  intro pins s σ H xs us Q I r h
  obtain ⟨x, rfl, F, d, z, hs, wx, hg, q⟩ := h
  unfold Dn.lenD at hg
  split at hg
  · cases hg
    obtain ⟨p, vs, rfl, h1, h2⟩ := wx.list hs
    refine call_len_seq pins s σ H _ us Q I r ⟨p, vs, rfl, .inl h1, ?_⟩
    rw [DpAll_len h2]
    exact q _ F H (Ext.refl hs) (.int _)
  · cases hg
    obtain ⟨p, vs, rfl, h1, h2⟩ := wx.tuple
    refine call_len_seq pins s σ H _ us Q I r ⟨p, vs, rfl, .inr (sqt_mono hs h1), ?_⟩
    rw [DpAll_len h2]
    exact q _ F H (Ext.refl hs) (.int _)
  · split at hg
    · rename_i hl
      cases hg
      have h1 := wx.str
      subst h1
      exact call_len_str pins s σ H _ us Q I r ⟨_, rfl, hl, q _ F H (Ext.refl hs) (.int _)⟩
    · cases hg
  · cases hg
end
/-- a built-in that makes a new list -/
def rN1 (K : PySem.W.Frag) (g : PyData → Option PyData) : List V → Hp → VK → Prop := fun xs H Q => ∃ x F d ds, xs = [x] ∧ Same F H ∧ W K F H x d ∧ g d = some (.list ds) ∧
  ∀ a vs F' H', Ext F H F' H' → H a = none → F' a = none → H' a = some (.lst vs) → DpAll K F' vs ds → Q (.ref a) H'
theorem rdn_b1 {K : PySem.W.Frag} {cl : Str → Value} {E : XK} {g : PyData → Option PyData} {ta : TE} {fa : Dn.EF} (hl : ∀ d r, g d = some r → ∃ ds, r = .list ds) (ha : RdW K cl E ta fa) : RdN K cl E (tCB (rN1 K g) (tCons ta tNil)) (Dn.e1 g fa) := fun B F0 F H σ ρ R r e Q ok ex => by
  rcases bnd_cases e with ⟨a, e1, e2⟩ | ⟨c, e1, rfl⟩
  · refine ha B F0 F H σ ρ R _ e1 _ (fun d ed v F1 H1 x1 w1 => ?_) (fun c ec => by cases ec)
    cases ed
    obtain ⟨z, ez, rfl⟩ := lft_cases e2
    obtain ⟨ds, rfl⟩ := hl _ _ ez
    exact ⟨v, F1, a, ds, rfl, x1.s, w1, ez, fun a vs F' H' x na fa' ha' q => ok _ rfl a vs ds F' H' (x1.trans x) rfl (x1.h.free na) fa' ha' q⟩
  · exact ha B F0 F H σ ρ R _ e1 _ (fun d ed => by cases ed) (fun c' ec F' H' x => by cases ec; exact ex c rfl F' H' x)
theorem lstD_list : ∀ d r, Dn.lstD d = some r → ∃ ds, r = .list ds := fun d r h => by
  obtain ⟨xs, _, e⟩ := Option.map_eq_some_iff.mp h
  exact ⟨xs, e.symm⟩
theorem sortD_list : ∀ d r, Dn.sortD d = some r → ∃ ds, r = .list ds := fun d r h => by
  obtain ⟨xs, _, e⟩ := Option.bind_eq_some_iff.mp h
  split at e
  · exact ⟨_, (Option.some.inj e).symm⟩
  · cases e
section
variable {X : Cx}
theorem cr_listX : CallR X (.type "list") (rN1 X.K Dn.lstD) := by
  intro pins s σ H xs us Q I r h
  obtain ⟨x, F, d, ds, rfl, hs, wx, hg, q⟩ := h
  obtain ⟨zs, hz, e⟩ := Option.map_eq_some_iff.mp hg
  cases e
  obtain ⟨a, vs, rfl, hc, hq⟩ := wx.seq hs hz
  refine call_list_of pins s σ H _ us Q I r ⟨a, vs, rfl, ?_, fun l hl => q l vs F _ (Ext.freshO hs _ hl) hl (hs.free hl) upd_same hq⟩
  rcases hc with ⟨_, h⟩ | ⟨_, h⟩
  · exact .inl h
  · exact .inr (sqt_mono hs h)
theorem cr_tupX : CallR X (.type "tuple") (rDC1 X.K Dn.tupD) := by
  intro pins s σ H xs us Q I r h
  obtain ⟨x, rfl, F, d, z, hs, wx, hg, q⟩ := h
  obtain ⟨zs, hz, e⟩ := Option.map_eq_some_iff.mp hg
  cases e
  obtain ⟨a, vs, rfl, hc, hq⟩ := wx.seq hs hz
  refine call_tuple_of pins s σ H _ us Q I r ⟨a, vs, rfl, ?_⟩
  rcases hc with ⟨_, h⟩ | ⟨_, h⟩
  · exact .inl ⟨h, fun l hl => q _ _ _ (Ext.fresh hs _ hl) (.tup (SqT.of upd_same) (DpAll_mono (same_upd (hs.free hl)) hq))⟩
  · exact .inr ⟨sqt_mono hs h, q _ F H (Ext.refl hs) (.tup h hq)⟩
theorem cr_sumX (hc : X.calm = true) : CallR X (.builtin "sum") (rDC1 X.K Dn.sumD) := by
  intro pins s σ H xs us Q I r h
  obtain ⟨x, rfl, F, d, z, hs, wx, hg, q⟩ := h
  obtain ⟨zs, hz, e⟩ := Option.bind_eq_some_iff.mp hg
  cases d with
  | list ds =>
    cases hz
    obtain ⟨ns, hn, e⟩ := Option.map_eq_some_iff.mp e
    cases e
    obtain ⟨a, vs, rfl, h1, h2⟩ := wx.list hs
    have ev := DpAll_ints h2 hn
    subst ev
    exact cr_sum hc pins s σ H _ us Q I r ⟨a, ns, rfl, h1, q _ F H (Ext.refl hs) (.int _)⟩
  | _ => cases hz
theorem cr_allX (hc : X.calm = true) : CallR X (.builtin "all") (rDC1 X.K Dn.allD) := by
  intro pins s σ H xs us Q I r h
  obtain ⟨x, rfl, F, d, z, hs, wx, hg, q⟩ := h
  obtain ⟨zs, hz, e⟩ := Option.bind_eq_some_iff.mp hg
  cases d with
  | list ds =>
    cases hz
    obtain ⟨ns, hn, e⟩ := Option.map_eq_some_iff.mp e
    cases e
    obtain ⟨a, vs, rfl, h1, h2⟩ := wx.list hs
    have ev := DpAll_bls h2 hn
    subst ev
    exact cr_all hc pins s σ H _ us Q I r ⟨a, ns, rfl, h1, q _ F H (Ext.refl hs) (.bl _)⟩
  | _ => cases hz
theorem cr_anyX (hc : X.calm = true) : CallR X (.builtin "any") (rDC1 X.K Dn.anyD) := by
  intro pins s σ H xs us Q I r h
  obtain ⟨x, rfl, F, d, z, hs, wx, hg, q⟩ := h
  obtain ⟨zs, hz, e⟩ := Option.bind_eq_some_iff.mp hg
  cases d with
  | list ds =>
    cases hz
    obtain ⟨ns, hn, e⟩ := Option.map_eq_some_iff.mp e
    cases e
    obtain ⟨a, vs, rfl, h1, h2⟩ := wx.list hs
    have ev := DpAll_bls h2 hn
    subst ev
    exact cr_any hc pins s σ H _ us Q I r ⟨a, ns, rfl, h1, q _ F H (Ext.refl hs) (.bl _)⟩
  | _ => cases hz
theorem foldl_max : ∀ (r : List Int) (x : Int), r.foldl max x ∈ x :: r ∧ ∀ y ∈ x :: r, y ≤ r.foldl max x
  | [], x => ⟨List.mem_cons_self, fun y h => by
      rcases List.mem_cons.mp h with h | h
      · exact Int.le_of_eq h
      · cases h⟩
  | z :: r, x => by
    obtain ⟨h1, h2⟩ := foldl_max r (max x z)
    refine ⟨?_, fun y h => ?_⟩
    · show r.foldl max (max x z) ∈ _
      rcases List.mem_cons.mp h1 with h | h
      · rw [h]
        rcases Int.le_total x z with q | q
        · rw [Int.max_eq_right q]; exact List.mem_cons_of_mem _ List.mem_cons_self
        · rw [Int.max_eq_left q]; exact List.mem_cons_self
      · exact List.mem_cons_of_mem _ (List.mem_cons_of_mem _ h)
    · show y ≤ r.foldl max (max x z)
      have hm := h2 _ List.mem_cons_self
      rcases List.mem_cons.mp h with h | h
      · exact Int.le_trans (by rw [h]; exact Int.le_max_left _ _) hm
      · rcases List.mem_cons.mp h with h | h
        · exact Int.le_trans (by rw [h]; exact Int.le_max_right _ _) hm
        · exact h2 y (List.mem_cons_of_mem _ h)
theorem foldl_min : ∀ (r : List Int) (x : Int), r.foldl min x ∈ x :: r ∧ ∀ y ∈ x :: r, r.foldl min x ≤ y
  | [], x => ⟨List.mem_cons_self, fun y h => by
      rcases List.mem_cons.mp h with h | h
      · exact Int.le_of_eq h.symm
      · cases h⟩
  | z :: r, x => by
    obtain ⟨h1, h2⟩ := foldl_min r (min x z)
    refine ⟨?_, fun y h => ?_⟩
    · show r.foldl min (min x z) ∈ _
      rcases List.mem_cons.mp h1 with h | h
      · rw [h]
        rcases Int.le_total x z with q | q
        · rw [Int.min_eq_left q]; exact List.mem_cons_self
        · rw [Int.min_eq_right q]; exact List.mem_cons_of_mem _ List.mem_cons_self
      · exact List.mem_cons_of_mem _ (List.mem_cons_of_mem _ h)
    · show r.foldl min (min x z) ≤ y
      have hm := h2 _ List.mem_cons_self
      rcases List.mem_cons.mp h with h | h
      · exact Int.le_trans hm (by rw [h]; exact Int.min_le_left _ _)
      · rcases List.mem_cons.mp h with h | h
        · exact Int.le_trans hm (by rw [h]; exact Int.min_le_right _ _)
        · exact h2 y (List.mem_cons_of_mem _ h)
theorem cr_max1X (hc : X.calm = true) : CallR X (.builtin "max") (rDC1 X.K Dn.max1D) := by
  intro pins s σ H xs us Q I r h
  obtain ⟨x, rfl, F, d, z, hs, wx, hg, q⟩ := h
  obtain ⟨zs, hz, e⟩ := Option.bind_eq_some_iff.mp hg
  cases d with
  | list ds =>
    cases hz
    obtain ⟨ns, hn, e⟩ := Option.bind_eq_some_iff.mp e
    obtain ⟨m, hm, e⟩ := Option.map_eq_some_iff.mp e
    cases e
    obtain ⟨a, vs, rfl, h1, h2⟩ := wx.list hs
    have ev := DpAll_ints h2 hn
    subst ev
    cases ns with
    | nil => cases hm
    | cons n r' =>
      cases hm
      refine cr_max hc pins s σ H _ us Q I r ⟨a, n :: r', rfl, h1, Nat.succ_pos _, fun m hm1 hm2 => ?_⟩
      have e : m = r'.foldl max n := Int.le_antisymm ((foldl_max r' n).2 m hm1) (hm2 _ (foldl_max r' n).1)
      subst e
      exact q _ F H (Ext.refl hs) (.int _)
  | _ => cases hz
theorem cr_min1X (hc : X.calm = true) : CallR X (.builtin "min") (rDC1 X.K Dn.min1D) := by
  intro pins s σ H xs us Q I r h
  obtain ⟨x, rfl, F, d, z, hs, wx, hg, q⟩ := h
  obtain ⟨zs, hz, e⟩ := Option.bind_eq_some_iff.mp hg
  cases d with
  | list ds =>
    cases hz
    obtain ⟨ns, hn, e⟩ := Option.bind_eq_some_iff.mp e
    obtain ⟨m, hm, e⟩ := Option.map_eq_some_iff.mp e
    cases e
    obtain ⟨a, vs, rfl, h1, h2⟩ := wx.list hs
    have ev := DpAll_ints h2 hn
    subst ev
    cases ns with
    | nil => cases hm
    | cons n r' =>
      cases hm
      refine cr_min hc pins s σ H _ us Q I r ⟨a, n :: r', rfl, h1, Nat.succ_pos _, fun m hm1 hm2 => ?_⟩
      have e : m = r'.foldl min n := Int.le_antisymm (hm2 _ (foldl_min r' n).1) ((foldl_min r' n).2 m hm1)
      subst e
      exact q _ F H (Ext.refl hs) (.int _)
  | _ => cases hz
theorem cr_max2X (hc : X.calm = true) : CallR X (.builtin "max") (rDC2 X.K Dn.max2D) := by
  intro pins s σ H xs us Q I r h
  obtain ⟨x, y, rfl, F, d, e, z, hs, wx, wy, hg, q⟩ := h
  unfold Dn.max2D at hg
  split at hg
  · rename_i a b
    cases hg
    have h1 := wx.int
    have h2 := wy.int
    subst h1 h2
    exact call_max2 hc pins s σ H _ us Q I r ⟨a, b, rfl, q _ F H (Ext.refl hs) (.int _)⟩
  · cases hg
theorem cr_min2X (hc : X.calm = true) : CallR X (.builtin "min") (rDC2 X.K Dn.min2D) := by
  intro pins s σ H xs us Q I r h
  obtain ⟨x, y, rfl, F, d, e, z, hs, wx, wy, hg, q⟩ := h
  unfold Dn.min2D at hg
  split at hg
  · rename_i a b
    cases hg
    have h1 := wx.int
    have h2 := wy.int
    subst h1 h2
    exact call_min2 hc pins s σ H _ us Q I r ⟨a, b, rfl, q _ F H (Ext.refl hs) (.int _)⟩
  · cases hg
theorem cr_intX : CallR X (.type "int") (rDC1 X.K Dn.intD) := by
  intro pins s σ H xs us Q I r h
  obtain ⟨x, rfl, F, d, z, hs, wx, hg, q⟩ := h
  unfold Dn.intD at hg
  split at hg
  · cases hg
    have h1 := wx.int
    subst h1
    exact call_int1 pins s σ H _ us Q I r (.inl ⟨_, rfl, q _ F H (Ext.refl hs) (.int _)⟩)
  · cases hg
    have h1 := wx.bl
    subst h1
    exact call_int1 pins s σ H _ us Q I r (.inr ⟨_, rfl, q _ F H (Ext.refl hs) (.int _)⟩)
  · split at hg
    · rename_i hl
      obtain ⟨n, hn, e⟩ := Option.map_eq_some_iff.mp hg
      cases e
      have h1 := wx.str
      subst h1
      exact call_int_str pins s σ H _ us Q I r ⟨_, n, rfl, hn, hl, q _ F H (Ext.refl hs) (.int _)⟩
    · cases hg
  · cases hg
theorem cr_strX : CallR X (.type "str") (rDC1 X.K Dn.strD) := by
  intro pins s σ H xs us Q I r h
  obtain ⟨x, rfl, F, d, z, hs, wx, hg, q⟩ := h
  unfold Dn.strD at hg
  split at hg
  · split at hg
    · rename_i hl
      cases hg
      have h1 := wx.int
      subst h1
      exact call_str_int pins s σ H _ us Q I r ⟨_, rfl, hl, q _ F H (Ext.refl hs) (.str _)⟩
    · cases hg
  · cases hg
/-! isinstance with a built-in class -/
def isiTy : Nat → String
  | 0 => "int"
  | 1 => "bool"
  | 2 => "tuple"
  | _ => "str"
def rIsiD (K : PySem.W.Frag) (k : Nat) : List V → Hp → VK → Prop := fun xs H Q => ∃ x F d r, xs = [x, .ty (isiTy k)] ∧ Same F H ∧ W K F H x d ∧ Dn.isiD k d = some (.bool r) ∧ Q (.bl r) H
theorem sql_ty {K : PySem.W.Frag} {H : Hp} {a : Addr} {xs : List V} (h : SqL K H a xs) : TyX K H (.ref a) (.type "list") := by
  rcases h with (h | ⟨o, h⟩) | ⟨o, its, n, hk, hc, _⟩
  · exact .base (.lst h)
  · exact .base (.frz h)
  · exact .kList hk hc
theorem sqt_ty {K : PySem.W.Frag} {H : Hp} {a : Addr} {xs : List V} (h : SqT K H a xs) : TyX K H (.ref a) (.type "tuple") := .base (.tup h)
theorem cr_isiX (k : Nat) (hk : k < 4) : CallR X (.builtin "isinstance") (rIsiD X.K k) := by
  intro pins s σ H xs us Q I r h
  obtain ⟨x, F, d, z, rfl, hs, wx, hg, q⟩ := h
  have go : ∀ (t : String) (b : Bool), TyX X.K H x (.type t) → kitB t (isiTy k) = some b → z = b → wpAny (model X.prog X.w) X.A (call (.builtin "isinstance") us) (EP X pins σ Q) X.xe s := fun t b ty hb e => by
    subst e
    exact call_isi pins s σ H _ us Q I r ⟨x, .ty (isiTy k), _, _, z, rfl, .ty _, ty, kit_ty hb, q⟩
  have h4 : k = 0 ∨ k = 1 ∨ k = 2 ∨ k = 3 := by omega
  cases d with
  | none =>
    have h1 := wx.non
    subst h1
    cases hg
    rcases h4 with e | e | e | e <;> subst e <;> exact go "NoneType" _ (.base .non) (by decide +kernel) rfl
  | bool b =>
    have h1 := wx.bl
    subst h1
    rcases h4 with e | e | e | e <;> subst e <;> cases hg <;> exact go "bool" _ (.base (.bl _)) (by decide +kernel) rfl
  | int b =>
    have h1 := wx.int
    subst h1
    rcases h4 with e | e | e | e <;> subst e <;> cases hg <;> exact go "int" _ (.base (.int _)) (by decide +kernel) rfl
  | str b =>
    have h1 := wx.str
    subst h1
    rcases h4 with e | e | e | e <;> subst e <;> cases hg <;> exact go "str" _ (.base (.str _)) (by decide +kernel) rfl
  | list b =>
    obtain ⟨a, vs, rfl, h1, h2⟩ := wx.list hs
    rcases h4 with e | e | e | e <;> subst e <;> cases hg <;> exact go "list" _ (sql_ty h1) (by decide +kernel) rfl
  | tuple b =>
    obtain ⟨a, vs, rfl, h1, h2⟩ := wx.tuple
    rcases h4 with e | e | e | e <;> subst e <;> cases hg <;> exact go "tuple" _ (sqt_ty (sqt_mono hs h1)) (by decide +kernel) rfl
  | dict b => cases hg
theorem isiD_bool {k : Nat} {d z : PyData} (h : Dn.isiD k d = some z) : ∃ b, z = .bool b := by
  cases d <;> first | (cases h; exact ⟨_, rfl⟩) | cases h
end
theorem rd_isi {K : PySem.W.Frag} {cl : Str → Value} {E : XK} {ta : TE} {fa : Dn.EF} (k : Nat) (ha : RdW K cl E ta fa) : Rd K cl E (tCB (rIsiD K k) (tCons ta (tCons (tC (.ty (isiTy k))) tNil))) (Dn.e1 (Dn.isiD k) fa) := fun B F0 F H σ ρ R r e Q ok ex => by
  rcases bnd_cases e with ⟨a, e1, e2⟩ | ⟨c, e1, rfl⟩
  · refine ha B F0 F H σ ρ R _ e1 _ (fun d ed v F1 H1 x1 w1 => ?_) (fun c ec => by cases ec)
    cases ed
    obtain ⟨z, ez, rfl⟩ := lft_cases e2
    obtain ⟨b, rfl⟩ := isiD_bool ez
    exact ⟨v, F1, a, b, rfl, x1.s, w1, ez, ok _ rfl _ F1 H1 x1 (.bl _)⟩
  · exact ha B F0 F H σ ρ R _ e1 _ (fun d ed => by cases ed) (fun c' ec F' H' x => by cases ec; exact ex c rfl F' H' x)
section
variable {X : Cx}
/-! ### subscripts -/
theorem atI_eq {α : Type} (xs : List α) (i : Int) : L2.atI xs i = (Dn.ixNat xs.length i).bind fun j => xs[j]? := rfl
theorem ix_X : IxR X (rD2 X.K Dn.ixD) := by
  intro ev es pins s σ H x y v u Q I rx ry h ho
  obtain ⟨F, d, e, r, hs, wx, wy, hg, q⟩ := h
  unfold Dn.ixD at hg
  split at hg
  · rename_i xs i
    obtain ⟨p, vs, rfl, h1, h2⟩ := wx.list hs
    have h3 := wy.int
    subst h3
    obtain ⟨j, hj, hd⟩ := Option.bind_eq_some_iff.mp hg
    obtain ⟨w, hw, hq⟩ := DpAll_get h2 hd
    refine ix_list ev es pins s σ H _ _ v u Q I rx ry ⟨p, vs, i, w, rfl, rfl, h1, ?_, q _ F H (Ext.refl hs) hq⟩ ho
    rw [atI_eq, DpAll_len h2, hj]
    exact hw
  · rename_i xs i
    obtain ⟨p, vs, rfl, h1, h2⟩ := wx.tuple
    have h3 := wy.int
    subst h3
    obtain ⟨j, hj, hd⟩ := Option.bind_eq_some_iff.mp hg
    obtain ⟨w, hw, hq⟩ := DpAll_get h2 hd
    refine ix_tup ev es pins s σ H _ _ v u Q I rx ry ⟨p, vs, i, w, rfl, rfl, sqt_mono hs h1, ?_, q _ F H (Ext.refl hs) hq⟩ ho
    rw [atI_eq, DpAll_len h2, hj]
    exact hw
  · rename_i z i
    split at hg
    · rename_i hl
      have h2 := wx.str
      have h3 := wy.int
      subst h2 h3
      obtain ⟨j, hj, hd⟩ := Option.bind_eq_some_iff.mp hg
      obtain ⟨c, hc, e⟩ := Option.map_eq_some_iff.mp hd
      cases e
      refine ix_str ev es pins s σ H _ _ v u Q I rx ry ⟨z, i, c, rfl, rfl, hl, ?_, q _ F H (Ext.refl hs) (.str _)⟩ ho
      rw [atI_eq, hj]
      exact hc
    · cases hg
  · cases hg
/-- a slice -/
def rSlD (K : PySem.W.Frag) : V → Option Int → Option Int → Hp → VK → Prop := fun x lo hi H Q => ∃ F d r, Same F H ∧ W K F H x d ∧ Dn.cutD lo hi d = some r ∧ ∀ v F' H', Ext F H F' H' → Dp K F' v r → Q v H'
theorem cut_eq (n d : Nat) (o : Option Int) : HT.sIx n d o = Dn.sIx n d o := rfl
theorem cutV_dp {K : PySem.W.Frag} {F : Hp} {vs : List V} {ds : List PyData} (h : DpAll K F vs ds) (lo hi : Option Int) : DpAll K F (cutV vs lo hi) (Dn.cutL ds lo hi) := by
  unfold cutV Dn.cutL
  rw [DpAll_len h]
  show DpAll K F _ ((ds.drop (HT.sIx ds.length 0 lo)).take (HT.sIx ds.length ds.length hi - HT.sIx ds.length 0 lo))
  exact DpAll_take _ (DpAll_drop _ h)
theorem sl_X : SlR X (rSlD X.K) := by
  intro pins s σ H x v vl vu lo hi sl Q I rx hsl pl pu h
  obtain ⟨F, d, r, hs, wx, hg, q⟩ := h
  unfold Dn.cutD at hg
  split at hg
  · cases hg
    obtain ⟨p, vs, rfl, h1, h2⟩ := wx.list hs
    exact sl_list pins s σ H _ v vl vu lo hi sl Q I rx hsl pl pu ⟨p, vs, rfl, h1, fun t ht => q _ _ _ (Ext.fresh hs _ ht) (.lst (SqL.of upd_same) (DpAll_mono (same_upd (hs.free ht)) (cutV_dp h2 lo hi)))⟩
  · cases hg
    obtain ⟨p, vs, rfl, h1, h2⟩ := wx.tuple
    refine sl_tupA pins s σ H _ v vl vu lo hi sl Q I rx hsl pl pu ⟨p, vs, rfl, sqt_mono hs h1, fun hw => q _ F H (Ext.refl hs) ?_, fun hw t ht => q _ _ _ (Ext.fresh hs _ ht) (.tup (SqT.of upd_same) (DpAll_mono (same_upd (hs.free ht)) (cutV_dp h2 lo hi)))⟩
    have e : cutV vs lo hi = vs := by
      unfold cutV
      rw [hw.1, hw.2, List.drop_zero, Nat.sub_zero, List.take_length]
    have hh := cutV_dp h2 lo hi
    rw [e] at hh
    exact .tup h1 hh
  · split at hg
    · rename_i hl
      cases hg
      have h1 := wx.str
      subst h1
      exact sl_str pins s σ H _ v vl vu lo hi sl Q I rx hsl pl pu ⟨_, rfl, hl, q _ F H (Ext.refl hs) (.str _)⟩
    · cases hg
  · cases hg
end
section
variable {K : PySem.W.Frag} {cl : Str → Value} {E : XK}
theorem rdo_no : RdO K cl E tNoPart Dn.oNo := fun B F0 F H σ ρ R r e Q ok ex => by
  cases e
  exact ok _ rfl F H (Ext.refl R.fh)
theorem rdo_int {ta : TE} {fa : Dn.EF} (ha : RdW K cl E ta fa) : RdO K cl E (tPart ta) (Dn.oInt fa) := fun B F0 F H σ ρ R r e Q ok ex => by
  rcases bnd_cases e with ⟨a, e1, e2⟩ | ⟨c, e1, rfl⟩
  · refine ha B F0 F H σ ρ R _ e1 _ (fun d ed v F1 H1 x1 w1 => ?_) (fun c ec => by cases ec)
    cases ed
    rcases bnd_cases e2 with ⟨i, e3, e4⟩ | ⟨c, e3, rfl⟩
    · obtain ⟨z, ez, e5⟩ := lft_cases e3
      cases e5
      cases e4
      cases a <;> first
        | (cases ez; exact ⟨_, w1.int, ok _ rfl F1 H1 x1⟩)
        | cases ez
    · obtain ⟨_, _, e5⟩ := lft_cases e3
      cases e5
  · exact ha B F0 F H σ ρ R _ e1 _ (fun d ed => by cases ed) (fun c' ec F' H' x => by cases ec; exact ex c rfl F' H' x)
theorem rd_cut {ta : TE} {fa : Dn.EF} {tl th : TO} {fl fh : Dn.Env → Dn.M (Option Int)} (ha : RdW K cl E ta fa) (hl : RdO K cl E tl fl) (hh : RdO K cl E th fh) : Rd K cl E (tSl (rSlD K) ta tl th) (Dn.eCut fa fl fh) := fun B F0 F H σ ρ R r e Q ok ex => by
  rcases bnd_cases e with ⟨a, e1, e2⟩ | ⟨c, e1, rfl⟩
  · refine ha B F0 F H σ ρ R _ e1 _ (fun d ed v F1 H1 x1 w1 => ?_) (fun c ec => by cases ec)
    cases ed
    rcases bnd_cases e2 with ⟨l, e3, e4⟩ | ⟨c, e3, rfl⟩
    · refine hl B F0 F1 H1 σ ρ (R.ext x1) _ e3 _ (fun d2 ed2 F2 H2 x2 => ?_) (fun c ec => by cases ec)
      cases ed2
      rcases bnd_cases e4 with ⟨u, e5, e6⟩ | ⟨c, e5, rfl⟩
      · refine hh B F0 F2 H2 σ ρ ((R.ext x1).ext x2) _ e5 _ (fun d3 ed3 F3 H3 x3 => ?_) (fun c ec => by cases ec)
        cases ed3
        obtain ⟨z, ez, rfl⟩ := lft_cases e6
        exact ⟨F3, a, z, x3.s, (w1.mono x2).mono x3, ez, fun v F' H' x q => ok _ rfl v F' H' (((x1.trans x2).trans x3).trans x) q⟩
      · exact hh B F0 F2 H2 σ ρ ((R.ext x1).ext x2) _ e5 _ (fun d2 ed2 => by cases ed2) (fun c' ec F' H' x => by cases ec; exact ex c rfl F' H' ((x1.trans x2).trans x))
    · exact hl B F0 F1 H1 σ ρ (R.ext x1) _ e3 _ (fun d2 ed2 => by cases ed2) (fun c' ec F' H' x => by cases ec; exact ex c rfl F' H' (x1.trans x))
  · exact ha B F0 F H σ ρ R _ e1 _ (fun d ed => by cases ed) (fun c' ec F' H' x => by cases ec; exact ex c rfl F' H' x)
/-- [..] * n -/
theorem rdn_rep {ta tk : TE} {fa fk : Dn.EF} (ha : RdN K cl E ta fa) (hk : RdW K cl E tk fk) : RdN K cl E (tOp rRep ta tk) (Dn.eRep fa fk) := fun B F0 F H σ ρ R r e Q ok ex => by
  rcases bnd_cases e with ⟨a, e1, e2⟩ | ⟨c, e1, rfl⟩
  · refine ha B F0 F H σ ρ R _ e1 _ (fun d ed p vs ds F1 H1 x1 el na fa' ha' q => ?_) (fun c ec => by cases ec)
    cases ed
    subst el
    rcases bnd_cases e2 with ⟨b, e3, e4⟩ | ⟨c, e3, rfl⟩
    · refine hk B F0 F1 H1 σ ρ (R.ext x1) _ e3 _ (fun d2 ed2 v2 F2 H2 x2 w2 => ?_) (fun c ec => by cases ec)
      cases ed2
      obtain ⟨z, ez, rfl⟩ := lft_cases e4
      split at ez
      · rename_i xs k hx
        split at ez
        · rename_i hc
          cases hx
          cases ez
          have hl := DpAll_len q
          have hz : vs.length * k.toNat ≤ sizeLine := by
            have h1 : vs.length * k.toNat ≤ 1000 * 1000 := Nat.mul_le_mul (by omega) (by omega)
            rw [sizeLine_eq]; omega
          refine ⟨p, k, vs, rfl, w2.int, x2.h _ _ ha', by omega, by omega, hz, fun t ht => ?_⟩
          exact ok _ rfl t _ _ F2 _ ((x1.trans x2).trans (Ext.freshO x2.s _ ht)) rfl ((x1.trans x2).h.free ht) (x2.s.free ht) upd_same (DpAll_rep (DpAll_mono x2.f q) k.toNat)
        · cases ez
      · cases ez
    · exact hk B F0 F1 H1 σ ρ (R.ext x1) _ e3 _ (fun d2 ed2 => by cases ed2) (fun c' ec F' H' x => by cases ec; exact ex c rfl F' H' (x1.trans x))
  · exact ha B F0 F H σ ρ R _ e1 _ (fun d ed => by cases ed) (fun c' ec F' H' x => by cases ec; exact ex c rfl F' H' x)
theorem dp_rg {F : Hp} (a b : Int) : DpAll K F (rgV a b) (Dn.rgL a b) := by
  unfold rgV Dn.rgL
  induction List.range (b - a).toNat with
  | nil => exact .nil
  | cons i r ih => exact .cons (.int _) ih
theorem rgOk_of {i : Int} (h : Dn.rgOk i = true) : -1000000 ≤ i ∧ i ≤ 1000000 := by
  unfold Dn.rgOk at h
  simp only [Bool.and_eq_true, decide_eq_true_eq] at h
  exact h
theorem rangeD_of {a b : PyData} {ds : List PyData} (h : Dn.rangeD a b = some ds) : ∃ i j, a = .int i ∧ b = .int j ∧ ds = Dn.rgL i j ∧ (-1000000 ≤ i ∧ i ≤ 1000000) ∧ -1000000 ≤ j ∧ j ≤ 1000000 := by
  unfold Dn.rangeD at h
  split at h
  · rename_i i j
    split at h
    · rename_i hc
      cases h
      obtain ⟨c1, c2⟩ := Bool.and_eq_true_iff.mp hc
      exact ⟨i, j, rfl, rfl, rfl, rgOk_of c1, rgOk_of c2⟩
    · cases h
  · cases h
theorem rdn_lrange {ta tb : TE} {fa fb : Dn.EF} (ha : RdW K cl E ta fa) (hb : RdW K cl E tb fb) : RdN K cl E (tLstRg (tRg2 ta tb)) (Dn.e2 Dn.lrangeD fa fb) := fun B F0 F H σ ρ R r e Q ok ex => by
  rcases bnd_cases e with ⟨a, e1, e2⟩ | ⟨c, e1, rfl⟩
  · refine ha B F0 F H σ ρ R _ e1 _ (fun d ed v F1 H1 x1 w1 => ?_) (fun c ec => by cases ec)
    cases ed
    rcases bnd_cases e2 with ⟨b, e3, e4⟩ | ⟨c, e3, rfl⟩
    · refine hb B F0 F1 H1 σ ρ (R.ext x1) _ e3 _ (fun d2 ed2 v2 F2 H2 x2 w2 => ?_) (fun c ec => by cases ec)
      cases ed2
      obtain ⟨z, ez, rfl⟩ := lft_cases e4
      obtain ⟨ds, hd, e5⟩ := Option.map_eq_some_iff.mp ez
      subst e5
      obtain ⟨i, j, rfl, rfl, rfl, h1, h2⟩ := rangeD_of hd
      refine ⟨i, j, w1.int, w2.int, ⟨by omega, by omega, by omega, by omega, by omega⟩, fun t ht => ?_⟩
      exact ok _ rfl t _ _ F2 _ ((x1.trans x2).trans (Ext.freshO x2.s _ ht)) rfl ((x1.trans x2).h.free ht) (x2.s.free ht) upd_same (dp_rg i j)
    · exact hb B F0 F1 H1 σ ρ (R.ext x1) _ e3 _ (fun d2 ed2 => by cases ed2) (fun c' ec F' H' x => by cases ec; exact ex c rfl F' H' (x1.trans x))
  · exact ha B F0 F H σ ρ R _ e1 _ (fun d ed => by cases ed) (fun c' ec F' H' x => by cases ec; exact ex c rfl F' H' x)
end
end Dw

set_option maxHeartbeats 4400000
/-! Dw4: what is walked; dicts; sorted; defs. -/
namespace Dw
open PySem PySem.Spec PyProof.Rows L2
section
variable {K : PySem.W.Frag} {cl : Str → Value} {E : XK}
/-! ### walks -/
theorem walk_list {F : Hp} {a : Addr} {vs : List V} {ds : List PyData} (h : SqL K F a vs) (q : DpAll K F vs ds) : Walk K (Itl K a) F ds where
  go := fun i H s hi => ⟨vs, vs[i]'(by rw [DpAll_len q]; exact hi), s.seq h, List.getElem?_eq_getElem _⟩
  stop := fun i H s hi => ⟨vs, s.seq h, by rw [DpAll_len q]; exact hi⟩
  yld := fun i F' H x H' s1 s2 hy hi => by
    obtain ⟨rfl, hy⟩ := hy
    obtain ⟨d, h1, h2⟩ := DpAll_getV q (hy vs ((s1.trans s2).seq h))
    exact ⟨d, F', h1, Ext.refl s2, Dp_mono s1 h2⟩
theorem walk_tup {F : Hp} {a : Addr} {vs : List V} {ds : List PyData} (h : SqT K F a vs) (q : DpAll K F vs ds) : Walk K (Itt K a) F ds where
  go := fun i H s hi => ⟨vs, vs[i]'(by rw [DpAll_len q]; exact hi), sqt_mono s h, List.getElem?_eq_getElem _⟩
  stop := fun i H s hi => ⟨vs, sqt_mono s h, by rw [DpAll_len q]; exact hi⟩
  yld := fun i F' H x H' s1 s2 hy hi => by
    obtain ⟨rfl, hy⟩ := hy
    obtain ⟨d, h1, h2⟩ := DpAll_getV q (hy vs (sqt_mono (s1.trans s2) h))
    exact ⟨d, F', h1, Ext.refl s2, Dp_mono s1 h2⟩
theorem walk_rg {F : Hp} (lo : Int) (n : Nat) : Walk K (Itr lo n) F ((List.range n).map fun i => .int (lo + (i : Nat))) where
  go := fun i H s hi => by
    rw [List.length_map, List.length_range] at hi
    exact hi
  stop := fun i H s hi => by
    rw [List.length_map, List.length_range] at hi
    exact hi
  yld := fun i F' H x H' s1 s2 hy hi => by
    obtain ⟨rfl, rfl⟩ := hy
    rw [List.length_map, List.length_range] at hi
    exact ⟨.int (lo + i), F', by rw [List.getElem?_map, List.getElem?_range hi]; rfl, Ext.refl s2, .int _⟩
/-- a list or a tuple -/
def iSeqT (K : PySem.W.Frag) (tl : TE) : TI := fun σ H R => tl σ H fun x H1 => ∃ a, x = .ref a ∧ (((∃ xs, SqL K H1 a xs) ∧ R (Itl K a) H1) ∨ ((∃ xs, SqT K H1 a xs) ∧ R (Itt K a) H1))
theorem pi_seq {X : Cx} {tg l : Expr} {tl : TE} (hl : PE X l tl) : PI X tg l (iSeqT X.K tl) where
  run := fun pins s σ H R I h => thn (hl.run pins s σ H _ I h) fun v s1 got => by
    obtain ⟨_, H1, I1, rv, a, rfl, q⟩ := got
    obtain rfl : v = .ref a := rv
    rcases q with ⟨⟨xs, hq⟩, q⟩ | ⟨⟨xs, hq⟩, q⟩
    · obtain ⟨its, -, p, -⟩ := I1.list hq
      exact wpAny_pyIter_list p.isList (pie_new1 I1 (turn_list a _) ⟨_, Heap.get?_push_size _ rfl, rfl, rfl⟩ q)
    · obtain ⟨its, -, p, -⟩ := I1.tuple hq.l2
      exact wpAny_pyIter_tuple (items := its.toArray) p (pie_new1 I1 (turn_tuple a _) ⟨_, Heap.get?_push_size _ rfl, rfl, rfl⟩ q)
theorem rdi_seq {t : TE} {f : Dn.EF} (h : Rd K cl E t f) : RdI K cl E (iSeqT K t) (Dn.iSeq f) := fun B F0 F H σ ρ R r e Q ok ex => by
  rcases bnd_cases e with ⟨a, e1, e2⟩ | ⟨c, e1, rfl⟩
  · refine h B F0 F H σ ρ R _ e1 _ (fun d ed v F1 H1 x1 w => ?_) (fun c ec => by cases ec)
    cases ed
    obtain ⟨ds, ez, rfl⟩ := lft_cases e2
    cases w with
    | lst hs ha =>
      cases ez
      exact ⟨_, rfl, .inl ⟨⟨_, x1.s.seq hs⟩, ok _ rfl _ F1 H1 x1 (walk_list hs ha)⟩⟩
    | tup hs ha =>
      cases ez
      exact ⟨_, rfl, .inr ⟨⟨_, sqt_mono x1.s hs⟩, ok _ rfl _ F1 H1 x1 (walk_tup hs ha)⟩⟩
    | non => cases ez
    | bl b => cases ez
    | int i => cases ez
    | str i => cases ez
  · exact h B F0 F H σ ρ R _ e1 _ (fun d ed => by cases ed) (fun c' ec F' H' x => by cases ec; exact ex c rfl F' H' x)
theorem rdi_rng1 {t : TE} {f : Dn.EF} (h : RdW K cl E t f) : RdI K cl E (L2.iRng1 (tCons t tNil)) (Dn.iRng1 f) := fun B F0 F H σ ρ R r e Q ok ex => by
  rcases bnd_cases e with ⟨a, e1, e2⟩ | ⟨c, e1, rfl⟩
  · refine h B F0 F H σ ρ R _ e1 _ (fun d ed v F1 H1 x1 w => ?_) (fun c ec => by cases ec)
    cases ed
    obtain ⟨ds, ez, rfl⟩ := lft_cases e2
    obtain ⟨i, j, hi, rfl, rfl, h1, h2⟩ := rangeD_of ez
    cases hi
    refine ⟨j, by rw [w.int], by omega, by omega, ok _ rfl _ F1 H1 x1 ?_⟩
    have := walk_rg (K := K) (F := F1) 0 j.toNat
    unfold Dn.rgL
    rw [Int.sub_zero]
    exact this
  · exact h B F0 F H σ ρ R _ e1 _ (fun d ed => by cases ed) (fun c' ec F' H' x => by cases ec; exact ex c rfl F' H' x)
theorem rdi_rng2 {t u : TE} {f g : Dn.EF} (ha : RdW K cl E t f) (hb : RdW K cl E u g) : RdI K cl E (L2.iRng2 (tCons t (tCons u tNil))) (Dn.iRng2 f g) := fun B F0 F H σ ρ R r e Q ok ex => by
  rcases bnd_cases e with ⟨a, e1, e2⟩ | ⟨c, e1, rfl⟩
  · refine ha B F0 F H σ ρ R _ e1 _ (fun d ed v F1 H1 x1 w1 => ?_) (fun c ec => by cases ec)
    cases ed
    rcases bnd_cases e2 with ⟨b, e3, e4⟩ | ⟨c, e3, rfl⟩
    · refine hb B F0 F1 H1 σ ρ (R.ext x1) _ e3 _ (fun d2 ed2 v2 F2 H2 x2 w2 => ?_) (fun c ec => by cases ec)
      cases ed2
      obtain ⟨ds, ez, rfl⟩ := lft_cases e4
      obtain ⟨i, j, rfl, rfl, rfl, h1, h2⟩ := rangeD_of ez
      refine ⟨i, j, by rw [w1.int, w2.int], ⟨by omega, by omega, by omega, by omega⟩, ok _ rfl _ F2 H2 (x1.trans x2) ?_⟩
      exact walk_rg (K := K) (F := F2) i (j - i).toNat
    · exact hb B F0 F1 H1 σ ρ (R.ext x1) _ e3 _ (fun d2 ed2 => by cases ed2) (fun c' ec F' H' x => by cases ec; exact ex c rfl F' H' (x1.trans x))
  · exact ha B F0 F H σ ρ R _ e1 _ (fun d ed => by cases ed) (fun c' ec F' H' x => by cases ec; exact ex c rfl F' H' x)
theorem zipL_len : ∀ (xs ys : List PyData), (Dn.zipL xs ys).length = min xs.length ys.length
  | [], _ => by simp [Dn.zipL]
  | _ :: _, [] => by simp [Dn.zipL]
  | x :: xs, y :: ys => by
    show (Dn.zipL xs ys).length + 1 = min (xs.length + 1) (ys.length + 1)
    rw [zipL_len xs ys]
    omega
theorem zipL_get : ∀ {xs ys : List PyData} {i : Nat} {x y : PyData}, xs[i]? = some x → ys[i]? = some y → (Dn.zipL xs ys)[i]? = some (.tuple [x, y])
  | [], _, _, _, _, h, _ => by simp at h
  | _ :: _, [], _, _, _, _, h => by simp at h
  | x :: xs, y :: ys, 0, _, _, h, h2 => by
    cases h
    cases h2
    rfl
  | x :: xs, y :: ys, i + 1, _, _, h, h2 => zipL_get (xs := xs) (ys := ys) (i := i) h h2
theorem walk_zipL {F : Hp} {a b : Addr} {vs ws : List V} {ds es : List PyData} (h : SqL K F a vs) (q : DpAll K F vs ds) (h2 : SqL K F b ws) (q2 : DpAll K F ws es) : Walk K (Itz K a b) F (Dn.zipL ds es) where
  go := fun i H s hi => by
    rw [zipL_len] at hi
    exact ⟨vs, ws, vs[i]'(by rw [DpAll_len q]; omega), ws[i]'(by rw [DpAll_len q2]; omega), s.seq h, s.seq h2, List.getElem?_eq_getElem _, List.getElem?_eq_getElem _⟩
  stop := fun i H s hi => by
    rw [zipL_len] at hi
    refine ⟨vs, ws, s.seq h, s.seq h2, ?_⟩
    rw [DpAll_len q, DpAll_len q2]
    omega
  yld := fun i F' H x H' s1 s2 hy hi => by
    obtain ⟨T, x1, y1, rfl, hT, rfl, hx, hy⟩ := hy
    obtain ⟨d, k1, k2⟩ := DpAll_getV q (hx vs ((s1.trans s2).seq h))
    obtain ⟨e, k3, k4⟩ := DpAll_getV q2 (hy ws ((s1.trans s2).seq h2))
    have sm : Same F (upd F' T (.tup [x1, y1])) := s1.trans (same_upd (s2.free hT))
    exact ⟨_, upd F' T (.tup [x1, y1]), zipL_get k1 k3, Ext.fresh s2 _ hT, .tup (SqT.of upd_same) (.cons (Dp_mono sm k2) (.cons (Dp_mono sm k4) .nil))⟩
theorem walk_zipT {F : Hp} {a b : Addr} {vs ws : List V} {ds es : List PyData} (h : SqT K F a vs) (q : DpAll K F vs ds) (h2 : SqT K F b ws) (q2 : DpAll K F ws es) : Walk K (RZ.ItzT K a b) F (Dn.zipL ds es) where
  go := fun i H s hi => by
    rw [zipL_len] at hi
    exact ⟨vs, ws, vs[i]'(by rw [DpAll_len q]; omega), ws[i]'(by rw [DpAll_len q2]; omega), sqt_mono s h, sqt_mono s h2, List.getElem?_eq_getElem _, List.getElem?_eq_getElem _⟩
  stop := fun i H s hi => by
    rw [zipL_len] at hi
    refine ⟨vs, ws, sqt_mono s h, sqt_mono s h2, ?_⟩
    rw [DpAll_len q, DpAll_len q2]
    omega
  yld := fun i F' H x H' s1 s2 hy hi => by
    obtain ⟨T, x1, y1, rfl, hT, rfl, hx, hy⟩ := hy
    obtain ⟨d, k1, k2⟩ := DpAll_getV q (hx vs (sqt_mono (s1.trans s2) h))
    obtain ⟨e, k3, k4⟩ := DpAll_getV q2 (hy ws (sqt_mono (s1.trans s2) h2))
    have sm : Same F (upd F' T (.tup [x1, y1])) := s1.trans (same_upd (s2.free hT))
    exact ⟨_, upd F' T (.tup [x1, y1]), zipL_get k1 k3, Ext.fresh s2 _ hT, .tup (SqT.of upd_same) (.cons (Dp_mono sm k2) (.cons (Dp_mono sm k4) .nil))⟩
/-- two lists, or two tuples -/
def seq2 : PyData → PyData → Bool
  | .list _, .list _ => true
  | .tuple _, .tuple _ => true
  | _, _ => false
theorem rdi_zip {t u : TE} {f g : Dn.EF} (ha : Rd K cl E t f) (hb : Rd K cl E u g) : RdI K cl E (RZ.iZipA K (tCons t (tCons u tNil))) (Dn.iZip f g) := fun B F0 F H σ ρ R r e Q ok ex => by
  rcases bnd_cases e with ⟨a, e1, e2⟩ | ⟨c, e1, rfl⟩
  · refine ha B F0 F H σ ρ R _ e1 _ (fun d ed v F1 H1 x1 w1 => ?_) (fun c ec => by cases ec)
    cases ed
    rcases bnd_cases e2 with ⟨b, e3, e4⟩ | ⟨c, e3, rfl⟩
    · refine hb B F0 F1 H1 σ ρ (R.ext x1) _ e3 _ (fun d2 ed2 v2 F2 H2 x2 w2 => ?_) (fun c ec => by cases ec)
      cases ed2
      obtain ⟨z, ez, rfl⟩ := lft_cases e4
      unfold Dn.zipD at ez
      split at ez
      · cases ez
        cases w1 with
        | lst hs1 ha1 =>
          cases w2 with
          | lst hs2 ha2 => exact ⟨_, _, _, _, rfl, .inl ⟨(x2.f.trans x2.s).seq hs1, x2.s.seq hs2, ok _ rfl _ F2 H2 (x1.trans x2) (walk_zipL (x2.f.seq hs1) (DpAll_mono x2.f ha1) hs2 ha2)⟩⟩
      · cases ez
        cases w1 with
        | tup hs1 ha1 =>
          cases w2 with
          | tup hs2 ha2 => exact ⟨_, _, _, _, rfl, .inr ⟨(sqt_mono (x2.f.trans x2.s) hs1).l2, (sqt_mono x2.s hs2).l2, ok _ rfl _ F2 H2 (x1.trans x2) (walk_zipT (sqt_mono x2.f hs1) (DpAll_mono x2.f ha1) hs2 ha2)⟩⟩
      · cases ez
    · exact hb B F0 F1 H1 σ ρ (R.ext x1) _ e3 _ (fun d2 ed2 => by cases ed2) (fun c' ec F' H' x => by cases ec; exact ex c rfl F' H' (x1.trans x))
  · exact ha B F0 F H σ ρ R _ e1 _ (fun d ed => by cases ed) (fun c' ec F' H' x => by cases ec; exact ex c rfl F' H' x)
theorem enumL_len : ∀ (k : Nat) (xs : List PyData), (Dn.enumL k xs).length = xs.length
  | _, [] => rfl
  | k, x :: xs => by
    show (Dn.enumL (k + 1) xs).length + 1 = xs.length + 1
    rw [enumL_len]
theorem enumL_get : ∀ {k : Nat} {xs : List PyData} {i : Nat} {x : PyData}, xs[i]? = some x → (Dn.enumL k xs)[i]? = some (.tuple [.int ((k + i : Nat) : Int), x])
  | _, [], _, _, h => by simp at h
  | k, x :: xs, 0, _, h => by
    cases h
    rfl
  | k, x :: xs, i + 1, _, h => by
    have ih := enumL_get (k := k + 1) (xs := xs) (i := i) h
    show (Dn.enumL (k + 1) xs)[i]? = _
    rw [ih]
    have e : k + 1 + i = k + (i + 1) := by omega
    rw [e]
theorem walk_enum {F : Hp} {a : Addr} {vs : List V} {ds : List PyData} (h : SqL K F a vs) (q : DpAll K F vs ds) : Walk K (Ite K a) F (Dn.enumL 0 ds) where
  go := fun i H s hi => by
    rw [enumL_len] at hi
    exact ⟨vs, vs[i]'(by rw [DpAll_len q]; omega), s.seq h, List.getElem?_eq_getElem _⟩
  stop := fun i H s hi => by
    rw [enumL_len] at hi
    exact ⟨vs, s.seq h, by rw [DpAll_len q]; omega⟩
  yld := fun i F' H x H' s1 s2 hy hi => by
    obtain ⟨T, x1, rfl, hT, rfl, hx⟩ := hy
    obtain ⟨d, k1, k2⟩ := DpAll_getV q (hx vs ((s1.trans s2).seq h))
    have sm : Same F (upd F' T (.tup [.int (i : Nat), x1])) := s1.trans (same_upd (s2.free hT))
    have hg := enumL_get (k := 0) k1
    rw [Nat.zero_add] at hg
    exact ⟨_, upd F' T (.tup [.int (i : Nat), x1]), hg, Ext.fresh s2 _ hT, .tup (SqT.of upd_same) (.cons (.int _) (.cons (Dp_mono sm k2) .nil))⟩
theorem rdi_enum {t : TE} {f : Dn.EF} (h : Rd K cl E t f) : RdI K cl E (L2.iEnum K (tCons t tNil)) (Dn.iEnumL f) := fun B F0 F H σ ρ R r e Q ok ex => by
  rcases bnd_cases e with ⟨a, e1, e2⟩ | ⟨c, e1, rfl⟩
  · refine h B F0 F H σ ρ R _ e1 _ (fun d ed v F1 H1 x1 w => ?_) (fun c ec => by cases ec)
    cases ed
    obtain ⟨ds, ez, rfl⟩ := lft_cases e2
    cases w with
    | lst hs ha =>
      cases ez
      exact ⟨_, _, rfl, x1.s.seq hs, ok _ rfl _ F1 H1 x1 (walk_enum hs ha)⟩
    | tup hs ha => cases ez
    | non => cases ez
    | bl b => cases ez
    | int i => cases ez
    | str i => cases ez
  · exact h B F0 F H σ ρ R _ e1 _ (fun d ed => by cases ed) (fun c' ec F' H' x => by cases ec; exact ex c rfl F' H' x)
end

/-! ### defs -/
theorem startN {N : List Str} {vs : List V} {ds : List PyData} (h : vs.length = ds.length) : (L2.start N vs).length = (ds.map (fun d => some (Dn.Sl.dat d)) ++ List.replicate (N.length - ds.length) none).length := by
  unfold L2.start
  rw [List.length_append, List.length_append, List.length_map, List.length_map, List.length_replicate, List.length_replicate, h]
theorem rp_start {K : PySem.W.Frag} {F H : Hp} {N : List Str} {vs : List V} {ds : List PyData} (s : Same F H) (h : DpAll K F vs ds) :
    Rp K H F F H (L2.start N vs) (ds.map (fun d => some (Dn.Sl.dat d)) ++ List.replicate (N.length - ds.length) none) := by
  have hl := DpAll_len h
  have get : ∀ {i : Nat} {x : Dn.Sl}, (ds.map (fun d => some (Dn.Sl.dat d)) ++ List.replicate (N.length - ds.length) none)[i]? = some (some x) → ∃ d, ds[i]? = some d ∧ x = .dat d := fun {i x} e => by
    by_cases hi : i < ds.length
    · rw [List.getElem?_append_left (by rw [List.length_map]; exact hi), List.getElem?_map, List.getElem?_eq_getElem hi] at e
      have e' := Option.some.inj (Option.some.inj e)
      exact ⟨_, List.getElem?_eq_getElem hi, e'.symm⟩
    · rw [List.getElem?_append_right (by rw [List.length_map]; omega), List.getElem?_replicate] at e
      split at e
      · cases e
      · cases e
  refine ⟨Same.refl _, Same.refl _, s, fun b o e => .inl e, startN hl, fun i d e => ?_, fun i d e => ?_, fun i d e => ?_, fun i d e => ?_, fun i j a x y h1 h2 n1 n2 _ _ => ?_⟩
  · obtain ⟨d', h1, h2⟩ := get e
    cases h2
    obtain ⟨v, h3, h4⟩ := DpAll_get h h1
    refine ⟨v, ?_, h4⟩
    unfold L2.start
    have hi : i < vs.length := (List.getElem?_eq_some_iff.mp h3).1
    rw [List.getElem?_append_left (by rw [List.length_map]; exact hi), List.getElem?_map, h3]
    rfl
  · obtain ⟨d', h1, h2⟩ := get e
    cases h2
  · obtain ⟨d', h1, h2⟩ := get e
    cases h2
  · obtain ⟨d', h1, h2⟩ := get e
    cases h2
  · obtain ⟨d', h3, h4⟩ := get h1
    exact absurd h4 (n1 _)
section
variable {P : Program} {w : World} {K : PySem.W.Frag} {mg : Str → Option Value} {base : Heap} {cl : Str → Value}
/-- a body answers for its def -/
theorem run_body {E : XK} {N : List Str} {t : TS} {b : Dn.SF} {n : Nat} {vs : List V} {H : Hp} {Q : VK} (hb : RdS K cl E t b) (h : spF K cl n (Dn.runF n N.length b) vs H Q E) :
    t { nx := fun _ H' => Q .non H', rt := Q } (L2.start N vs) H := by
  obtain ⟨F, ds, r, hn, hs, hd, hg, ok, ex⟩ := h
  unfold Dn.runF at hg
  split at hg
  · rename_i hl
    split at hg
    · rename_i d hb1
      cases hg
      subst hl
      refine hb H F F H _ _ (rp_start hs hd) _ hb1 _ ?_
      exact fun v F' H' s1 s2 s3 nb q => ok d rfl v F' H' ⟨s2, s3, s1, nb⟩ q
    · rename_i ρ' hb1
      cases hg
      subst hl
      refine hb H F F H _ _ (rp_start hs hd) _ hb1 _ ?_
      exact fun F' H' σ' R' => ok _ rfl .non F' H' ⟨R'.ff, R'.fh, R'.bh, R'.nb⟩ .non
    · rename_i c hb1
      cases hg
      subst hl
      refine hb H F F H _ _ (rp_start hs hd) _ hb1 _ ?_
      exact fun H' s1 => ex c rfl H' s1
    · cases hg
  · cases hg
/-- a def that lets nothing out, by its body -/
theorem fn_ok {x qual : Str} {st : Stmt} {f : Addr} {fd : FuncData} {N ps : List Str} {k n : Nat} {b : Dn.SF} (F : Fun K x qual st f fd) (S : FnScope N ps (defScope st)) (hn : ps.length = n)
    (hbody : ∀ (cdv : Value) (A : Around) (outer : List Env) (s : Shared) (H : Hp) (E : XK), Room k (A.deeper (envOfC qual (defScope st) s.heap.objs.size f cdv)) →
      ∃ t, PSs (cxOf CX0 P w K mg base N qual (defScope st) f cdv A outer s H E).nox (defBody st) t ∧ RdS K cl E0 t b) : FnOk P w K mg base CX0 (k + 1) f fd ps (spF K cl n (noX (Dn.runF n N.length b))) := by
  refine F.ok S (fun vs H Q E h => ?_) (fun cdv A outer s H vs Q E hr h => ?_)
  · obtain ⟨_, _, _, h1, _⟩ := h
    rw [h1, hn]
  · obtain ⟨t, h1, h2⟩ := hbody cdv A outer s H E hr
    obtain ⟨F, ds, r, hn', hs, hd, hg, ok, ex⟩ := h
    obtain ⟨h3, d, hd0⟩ := noX_ok hg
    exact ⟨t, h1, run_body (n := n) h2 ⟨F, ds, r, hn', hs, hd, h3, ok, fun c ec => by rw [hd0] at ec; cases ec⟩⟩
/-- a def that may raise -/
theorem fn_okX {x qual : Str} {st : Stmt} {f : Addr} {fd : FuncData} {N ps : List Str} {k n : Nat} {b : Dn.SF} (F : Fun K x qual st f fd) (S : FnScope N ps (defScope st)) (hn : ps.length = n)
    (hbody : ∀ (cdv : Value) (A : Around) (outer : List Env) (s : Shared) (H : Hp) (E : XK), Room k (A.deeper (envOfC qual (defScope st) s.heap.objs.size f cdv)) →
      ∃ t, PSs (cxOf (L2.CX P w) P w K mg base N qual (defScope st) f cdv A outer s H E) (defBody st) t ∧ RdS K cl E t b) : FnOk P w K mg base (L2.CX P w) (k + 1) f fd ps (spF K cl n (Dn.runF n N.length b)) := by
  refine F.okX S (fun vs H Q E h => ?_) (fun cdv A outer s H vs Q E hr h => ?_)
  · obtain ⟨_, _, _, h1, _⟩ := h
    rw [h1, hn]
  · obtain ⟨t, h1, h2⟩ := hbody cdv A outer s H E hr
    exact ⟨t, h1, run_body h2 h⟩
end
end Dw

set_option maxHeartbeats 4400000
/-! Dw5: dicts, sorted. -/
namespace Dw
open PySem PySem.Spec PyProof.Rows L2
section
variable {K : PySem.W.Frag} {B F0 F H F' H' : Hp} {σ : L2.St} {ρ : Dn.Env}
abbrev PT (K : PySem.W.Frag) (F : Hp) (ws : List (List Key × V)) (kvs : List (List Int × PyData)) : Prop :=
  Paired (fun (p : List Key × V) (q : List Int × PyData) => p.1 = q.1.map Sum.inl ∧ Dp K F p.2 q.2) ws kvs
theorem inl_inj {a b : List Int} (h : a.map (Sum.inl : Int → Key) = b.map Sum.inl) : a = b := by
  induction a generalizing b with
  | nil =>
    cases b with
    | nil => rfl
    | cons _ _ => cases h
  | cons x a ih =>
    cases b with
    | nil => cases h
    | cons y b =>
      rw [List.map_cons, List.map_cons] at h
      injection h with h1 h2
      cases h1
      rw [ih h2]
theorem PT_len {ws : List (List Key × V)} {kvs : List (List Int × PyData)} : PT K F ws kvs → ws.length = kvs.length := fun h => by
  induction h with
  | nil => rfl
  | cons _ _ ih => rw [List.length_cons, List.length_cons, ih]
theorem PT_any {k : List Int} : ∀ {ws : List (List Key × V)} {kvs : List (List Int × PyData)}, PT K F ws kvs → (ws.any fun kv => decide (kv.1 = k.map Sum.inl)) = kvs.any fun kv => decide (kv.1 = k)
  | _, _, .nil => rfl
  | _, _, .cons (a := p) (b := q) h t => by
    rw [List.any_cons, List.any_cons, PT_any t]
    congr 1
    rw [h.1]
    by_cases e : q.1 = k
    · rw [e]; simp
    · rw [decide_eq_false e, decide_eq_false fun z => e (inl_inj z)]
theorem PT_map {k : List Int} {v : V} {d : PyData} (hv : Dp K F v d) : ∀ {ws : List (List Key × V)} {kvs : List (List Int × PyData)}, PT K F ws kvs →
    PT K F (ws.map fun kv => if kv.1 = k.map Sum.inl then (kv.1, v) else kv) (kvs.map fun kv => if kv.1 = k then (kv.1, d) else kv)
  | _, _, .nil => .nil
  | _, _, .cons (a := p) (b := q) h t => by
    rw [List.map_cons, List.map_cons]
    refine .cons ?_ (PT_map hv t)
    by_cases e : q.1 = k
    · have e2 : p.1 = k.map Sum.inl := by rw [h.1, e]
      rw [if_pos e, if_pos e2]
      exact ⟨h.1, hv⟩
    · have e2 : ¬ p.1 = k.map Sum.inl := fun z => e (inl_inj (by rw [← h.1]; exact z))
      rw [if_neg e, if_neg e2]
      exact h
theorem PT_app {v : V} {d : PyData} {k : List Int} (hv : Dp K F v d) : ∀ {ws : List (List Key × V)} {kvs : List (List Int × PyData)}, PT K F ws kvs → PT K F (ws ++ [(k.map Sum.inl, v)]) (kvs ++ [(k, d)])
  | _, _, .nil => .cons ⟨rfl, hv⟩ .nil
  | _, _, .cons h t => .cons h (PT_app hv t)
theorem PT_put {k : List Int} {v : V} {d : PyData} (hv : Dp K F v d) {ws : List (List Key × V)} {kvs : List (List Int × PyData)} (h : PT K F ws kvs) : PT K F (putK ws (k.map Sum.inl) v) (Dn.putT kvs k d) := by
  unfold putK Dn.putT
  rw [PT_any h]
  by_cases e : (kvs.any fun kv => decide (kv.1 = k)) = true
  · rw [if_pos e, if_pos e]
    exact PT_map hv h
  · rw [if_neg e, if_neg e]
    exact PT_app hv h
theorem PT_get {k : List Int} {d : PyData} : ∀ {ws : List (List Key × V)} {kvs : List (List Int × PyData)}, PT K F ws kvs → Dn.getT kvs k = some d → ∃ v, valV ws (k.map Sum.inl) = some v ∧ Dp K F v d
  | _, _, .nil, e => by cases e
  | _, _, .cons (a := p) (b := q) (l₁ := ws) (l₂ := kvs) h t, e => by
    by_cases e1 : q.1 = k
    · have e2 : p.1 = k.map Sum.inl := by rw [h.1, e1]
      have e3 : d = q.2 := by
        unfold Dn.getT at e
        rw [List.find?_cons_of_pos (by simpa using e1)] at e
        exact (Option.some.inj e).symm
      exact ⟨p.2, valV_pos e2, by rw [e3]; exact h.2⟩
    · have e2 : ¬ p.1 = k.map Sum.inl := fun z => e1 (inl_inj (by rw [← h.1]; exact z))
      have e3 : Dn.getT kvs k = some d := by
        unfold Dn.getT at e ⊢
        rw [List.find?_cons_of_neg (by simpa using e1)] at e
        exact e
      obtain ⟨v, h1, h2⟩ := PT_get t e3
      refine ⟨v, ?_, h2⟩
      unfold valV at h1 ⊢
      rw [List.find?_cons_of_neg (by simpa using e2)]
      exact h1
theorem PT_getV {k : List Key} {v : V} : ∀ {ws : List (List Key × V)} {kvs : List (List Int × PyData)} {i : Nat}, PT K F ws kvs → ws[i]? = some (k, v) → ∃ q, kvs[i]? = some q ∧ k = q.1.map Sum.inl
  | _, _, _, .nil, e => by simp at e
  | _, _, 0, .cons h t, e => by
    cases e
    exact ⟨_, rfl, h.1⟩
  | _, _, i + 1, .cons h t, e => PT_getV (i := i) t e
/-- a slot takes a new dict -/
theorem Rp.setOwnT (R : Rp K B F0 F H σ ρ) {ds : List (List Int × PyData)} {a : Addr} {vs : List (List Key × V)} (hH : H a = some (.dT vs)) (hB : B a = none) (hF : F a = none) (q : PT K F vs ds) (hn : ∀ (i : Nat) (s : Dn.Sl), ρ[i]? = some (some s) → (∀ d, s ≠ .dat d) → σ[i]? ≠ some (some (.ref a))) (i : Nat) :
    Rp K B F0 F H (σ.set i (some (.ref a))) (ρ.set i (some (.ownT ds))) := by
  have get : ∀ {j : Nat} {s : Dn.Sl}, (ρ.set i (some (.ownT ds)))[j]? = some (some s) → (i = j ∧ s = .ownT ds ∧ i < ρ.length) ∨ (i ≠ j ∧ ρ[j]? = some (some s)) := fun {j s} h => by
    by_cases hj : i = j
    · subst hj
      have hl : i < ρ.length := by
        obtain ⟨z, _⟩ := List.getElem?_eq_some_iff.mp h
        rw [List.length_set] at z; exact z
      rw [List.getElem?_set_self hl] at h
      cases h
      exact .inl ⟨rfl, rfl, hl⟩
    · rw [List.getElem?_set_ne hj] at h
      exact .inr ⟨hj, h⟩
  have self : i < ρ.length → (σ.set i (some (V.ref a)))[i]? = some (some (V.ref a)) := fun h => List.getElem?_set_self (by rw [R.len]; exact h)
  refine ⟨R.bh, R.ff, R.fh, R.nb, by rw [List.length_set, List.length_set]; exact R.len, fun j d h => ?_, fun j es h => ?_, fun j es h => ?_, fun j es h => ?_, fun j k b s s' h1 h2 n1 n2 g1 g2 => ?_⟩
  · rcases get h with ⟨rfl, z, _⟩ | ⟨hj, h⟩
    · cases z
    · rw [List.getElem?_set_ne hj]; exact R.dat j d h
  · rcases get h with ⟨rfl, z, _⟩ | ⟨hj, h⟩
    · cases z
    · rw [List.getElem?_set_ne hj]; exact R.own j es h
  · rcases get h with ⟨rfl, z, hl⟩ | ⟨hj, h⟩
    · cases z
      exact ⟨a, vs, self hl, hH, hB, hF, q⟩
    · rw [List.getElem?_set_ne hj]; exact R.ownT j es h
  · rcases get h with ⟨rfl, z, _⟩ | ⟨hj, h⟩
    · cases z
    · rw [List.getElem?_set_ne hj]; exact R.frzT j es h
  · rcases get h1 with ⟨rfl, _, hl⟩ | ⟨hj, h1⟩
    · rcases get h2 with ⟨rfl, _, _⟩ | ⟨hk, h2⟩
      · rfl
      · rw [self hl] at g1
        cases g1
        rw [List.getElem?_set_ne hk] at g2
        exact absurd g2 (hn k _ h2 n2)
    · rcases get h2 with ⟨rfl, _, hl⟩ | ⟨hk, h2⟩
      · rw [self hl] at g2
        cases g2
        rw [List.getElem?_set_ne hj] at g1
        exact absurd g1 (hn j _ h1 n1)
      · rw [List.getElem?_set_ne hj] at g1
        rw [List.getElem?_set_ne hk] at g2
        exact R.dist j k b s s' h1 h2 n1 n2 g1 g2
/-- a dict of one's own is changed -/
theorem Rp.updOwnT (R : Rp K B F0 F H σ ρ) {i : Nat} {ds ds' : List (List Int × PyData)} {a : Addr} {vs' : List (List Key × V)} (e : ρ[i]? = some (some (.ownT ds))) (e2 : σ[i]? = some (some (.ref a))) (hB : B a = none) (hF : F a = none) (q : PT K F vs' ds') :
    Rp K B F0 F (upd H a (.dT vs')) σ (ρ.set i (some (.ownT ds'))) := by
  have hl : i < ρ.length := (List.getElem?_eq_some_iff.mp e).1
  have sa : ∀ {G : Hp}, Same G H → G a = none → Same G (upd H a (.dT vs')) := fun {G} s n b o h => by
    rw [upd_ne (ne_of_none h n)]; exact s b o h
  have get : ∀ {j : Nat} {s : Dn.Sl}, (ρ.set i (some (.ownT ds')))[j]? = some (some s) → (i = j ∧ s = .ownT ds') ∨ (i ≠ j ∧ ρ[j]? = some (some s)) := fun {j s} h => by
    by_cases hj : i = j
    · subst hj
      rw [List.getElem?_set_self hl] at h
      cases h
      exact .inl ⟨rfl, rfl⟩
    · rw [List.getElem?_set_ne hj] at h
      exact .inr ⟨hj, h⟩
  have nd : ∀ d, Dn.Sl.ownT ds ≠ .dat d := fun d z => by cases z
  refine ⟨sa R.bh hB, R.ff, sa R.fh hF, R.nb, by rw [List.length_set]; exact R.len, fun j d h => ?_, fun j es h => ?_, fun j es h => ?_, fun j es h => ?_, fun j k b s s' h1 h2 n1 n2 g1 g2 => ?_⟩
  · rcases get h with ⟨_, z⟩ | ⟨_, h⟩
    · cases z
    · exact R.dat j d h
  · rcases get h with ⟨rfl, z⟩ | ⟨hj, h⟩
    · cases z
    · obtain ⟨b, ws, h1, h2, h3, h4, h5⟩ := R.own j es h
      have hne : b ≠ a := fun z => by
        subst z
        exact hj (R.dist i j b _ _ e h nd (fun d z => by cases z) e2 h1)
      exact ⟨b, ws, h1, by rw [upd_ne hne]; exact h2, h3, h4, h5⟩
  · rcases get h with ⟨rfl, z⟩ | ⟨hj, h⟩
    · cases z
      exact ⟨a, vs', e2, upd_same, hB, hF, q⟩
    · obtain ⟨b, ws, h1, h2, h3, h4, h5⟩ := R.ownT j es h
      have hne : b ≠ a := fun z => by
        subst z
        exact hj (R.dist i j b _ _ e h nd (fun d z => by cases z) e2 h1)
      exact ⟨b, ws, h1, by rw [upd_ne hne]; exact h2, h3, h4, h5⟩
  · rcases get h with ⟨rfl, z⟩ | ⟨hj, h⟩
    · cases z
    · exact R.frzT j es h
  · have conv : ∀ {j : Nat} {s : Dn.Sl}, (ρ.set i (some (.ownT ds')))[j]? = some (some s) → (∀ d, s ≠ .dat d) → ∃ s0 : Dn.Sl, ρ[j]? = some (some s0) ∧ ∀ d, s0 ≠ .dat d := fun {j s} h n => by
      rcases get h with ⟨rfl, z⟩ | ⟨hj, h⟩
      · exact ⟨_, e, nd⟩
      · exact ⟨s, h, n⟩
    obtain ⟨s0, k1, k2⟩ := conv h1 n1
    obtain ⟨s1, k3, k4⟩ := conv h2 n2
    exact R.dist j k b s0 s1 k1 k3 k2 k4 g1 g2
end
section
variable {K : PySem.W.Frag} {cl : Str → Value} {E : XK}
theorem rds_dictNew (i : Nat) : RdS K cl E (tAsg tDNewT (L2.gName i)) (Dn.sDictNew i) := fun B F0 F H σ ρ R r e D p => by
  cases e
  intro a ha
  have R1 := R.ext (Ext.freshO R.fh (.dT []) ha)
  exact p F _ _ (R1.setOwnT upd_same (R.bh.free ha) (R.fh.free ha) .nil (R.newOut ha) i)
theorem rds_dictSet {ta tb te : TE} {fa fb f : Dn.EF} (i : Nat) (ha : RdW K cl E ta fa) (hb : RdW K cl E tb fb) (h : Rd K cl E te f) :
    RdS K cl E (sDPut (tVar i) (tTup (tCons ta (tCons tb tNil))) te) (Dn.sDictSet i fa fb f) := fun B F0 F H σ ρ R r e D p => by
  rcases bS_cases e with ⟨d, e1, e2⟩ | ⟨c, e1, rfl⟩
  · refine h B F0 F H σ ρ R _ e1 _ (fun d' ed v F1 H1 x1 w => ?_) (fun c ec => by cases ec)
    cases ed
    have R1 := R.ext x1
    split at e2
    · rename_i kvs hd
      obtain ⟨a, vs, h1, h2, h3, h4, h5⟩ := R.ownT i kvs hd
      refine ⟨.ref a, h1, ?_⟩
      rcases bS_cases e2 with ⟨z, e3, e4⟩ | ⟨c, e3, rfl⟩
      · refine ha B F0 F1 H1 σ ρ R1 _ e3 _ (fun d2 ed2 v2 F2 H2 x2 w2 => ?_) (fun c ec => by cases ec)
        cases ed2
        rcases bS_cases e4 with ⟨z2, e5, e6⟩ | ⟨c, e5, rfl⟩
        · refine hb B F0 F2 H2 σ ρ (R1.ext x2) _ e5 _ (fun d3 ed3 v3 F3 H3 x3 w3 => ?_) (fun c ec => by cases ec)
          cases ed3
          split at e6
          · rename_i x y
            split at e6
            · rename_i hlen
              cases e6
              have k1 := w2.int
              have k2 := w3.int
              subst k1 k2
              refine ⟨by show 2 ≤ sizeLine; decide, fun t ht => ?_⟩
              have xx := (x1.trans x2).trans x3
              have R3 : Rp K B F0 (upd F3 t (.tup [.int x, .int y])) (upd H3 t (.tup [.int x, .int y])) σ ρ := (R.ext xx).ext (Ext.fresh xx.s _ ht)
              obtain ⟨a', vs', g1, g2, g3, g4, g5⟩ := R3.ownT i kvs hd
              have ea : a' = a := by
                rw [h1] at g1
                cases g1
                rfl
              subst ea
              have hl2 : vs'.length < sizeLine := by rw [PT_len g5]; exact lineM (by omega)
              refine ⟨a', _, rfl, DPut.t (k := [Sum.inl x, Sum.inl y]) g2 upd_same hl2, p _ _ σ (R3.updOwnT hd g1 g3 g4 (PT_put (k := [x, y]) (Dp_mono (((x2.f).trans x3.f).trans (same_upd (xx.s.free ht))) w) g5))⟩
            · cases e6
          · cases e6
        · exact hb B F0 F2 H2 σ ρ (R1.ext x2) _ e5 _ (fun d ed => by cases ed) (fun c' ec F' H' x => by cases ec; exact p H' ((R1.ext x2).bh.trans x.h))
      · exact ha B F0 F1 H1 σ ρ R1 _ e3 _ (fun d ed => by cases ed) (fun c' ec F' H' x => by cases ec; exact p H' (R1.bh.trans x.h))
    · cases e2
  · exact h B F0 F H σ ρ R _ e1 _ (fun d ed => by cases ed) (fun c' ec F' H' x => by cases ec; exact p H' (R.bh.trans x.h))
theorem rd_dictGet {ta tb : TE} {fa fb : Dn.EF} (i : Nat) (ha : RdW K cl E ta fa) (hb : RdW K cl E tb fb) :
    Rd K cl E (tDGet (tVar i) (tTup (tCons ta (tCons tb tNil)))) (Dn.eDictGet i fa fb) := fun B F0 F H σ ρ R r e Q ok ex => by
  unfold Dn.eDictGet at e
  split at e
  · rename_i kvs hd
    obtain ⟨a, ws, o, h1, h2, h5⟩ := R.frzT i kvs hd
    refine ⟨.ref a, h1, ?_⟩
    rcases bnd_cases e with ⟨z, e3, e4⟩ | ⟨c, e3, rfl⟩
    · refine ha B F0 F H σ ρ R _ e3 _ (fun d2 ed2 v2 F2 H2 x2 w2 => ?_) (fun c ec => by cases ec)
      cases ed2
      rcases bnd_cases e4 with ⟨z2, e5, e6⟩ | ⟨c, e5, rfl⟩
      · refine hb B F0 F2 H2 σ ρ (R.ext x2) _ e5 _ (fun d3 ed3 v3 F3 H3 x3 w3 => ?_) (fun c ec => by cases ec)
        cases ed3
        obtain ⟨y0, ey, rfl⟩ := lft_cases e6
        split at ey
        · rename_i x y
          have k1 := w2.int
          have k2 := w3.int
          subst k1 k2
          obtain ⟨u, hu, hq⟩ := PT_get h5 ey
          refine ⟨by show 2 ≤ sizeLine; decide, fun t ht => ?_⟩
          have xx := x2.trans x3
          have hne : a ≠ t := fun z => by
            subst z
            rw [xx.h _ _ (R.bh _ _ h2)] at ht; cases ht
          refine ⟨a, u, rfl, .inr ⟨ws, [Sum.inl x, Sum.inl y], t, .inr ⟨o, by rw [upd_ne hne]; exact xx.h _ _ (R.bh _ _ h2)⟩, rfl, upd_same, hu.symm⟩, ?_⟩
          exact ok _ rfl u _ _ (xx.trans (Ext.fresh xx.s _ ht)) (Dp_mono (xx.f.trans (same_upd (xx.s.free ht))) hq)
        · cases ey
      · exact hb B F0 F2 H2 σ ρ (R.ext x2) _ e5 _ (fun d ed => by cases ed) (fun c' ec F' H' x => by cases ec; exact ex c rfl F' H' (x2.trans x))
    · exact ha B F0 F H σ ρ R _ e3 _ (fun d ed => by cases ed) (fun c' ec F' H' x => by cases ec; exact ex c rfl F' H' x)
  · cases e
theorem dp_ints {F : Hp} : ∀ ns : List Int, DpAll K F ((ns.map Sum.inl : List Key).map kV) (ns.map .int)
  | [] => .nil
  | n :: ns => .cons (.int n) (dp_ints ns)
theorem walk_keys {F : Hp} {a : Addr} {o : Obj} {ws : List (List Key × V)} {kvs : List (List Int × PyData)} (hB : F a = some (.frz o (.dT ws))) (q : PT K F ws kvs) : Walk K (Itkt a o ws) F (Dn.keysT kvs) where
  go := fun i H s hi => ⟨s _ _ hB, by
    unfold Dn.keysT at hi
    rw [List.length_map] at hi
    rw [PT_len q]; exact hi⟩
  stop := fun i H s hi => ⟨s _ _ hB, by
    unfold Dn.keysT at hi
    rw [List.length_map] at hi
    rw [PT_len q]; exact hi⟩
  yld := fun i F' H x H' s1 s2 hy hi => by
    obtain ⟨rfl, k, v, b, hk, rfl, hb⟩ := hy
    obtain ⟨kv, h1, h2⟩ := PT_getV (i := i) q hk
    subst h2
    refine ⟨.tuple (kv.1.map .int), fun c => if c = b then some (.tup ((kv.1.map Sum.inl : List Key).map kV)) else F' c, ?_, ⟨fun c o' h => ?_, fun c o' h => ?_, Same.refl _, fun c o' h => ?_⟩, ?_⟩
    · unfold Dn.keysT
      rw [List.getElem?_map, h1]
      rfl
    · by_cases hc : c = b
      · subst hc
        have := s2 c o' h
        rw [hb] at this
        show (if c = c then _ else F' c) = _
        rw [if_pos rfl]; exact this
      · show (if c = b then _ else F' c) = _
        rw [if_neg hc]; exact h
    · by_cases hc : c = b
      · subst hc
        have h' := (if_pos rfl).symm.trans h
        rw [← h']; exact hb
      · exact s2 c o' ((if_neg hc).symm.trans h)
    · by_cases hc : c = b
      · subst hc
        have h' := (if_pos rfl).symm.trans h
        cases h'
        exact .inr (.inr ⟨_, rfl⟩)
      · exact .inl ((if_neg hc).symm.trans h)
    · exact .tup (SqT.of (if_pos rfl)) (dp_ints _)
/-- F without what stands at a -/
def but (F : Hp) (a : Addr) : Hp := fun b => if b = a then none else F b
theorem but_ne {F : Hp} {a b : Addr} (h : b ≠ a) : but F a b = F b := if_neg h
theorem but_eq {F : Hp} {a : Addr} : but F a a = none := if_pos rfl
theorem but_some {F : Hp} {a b : Addr} {o : HO} (h : but F a b = some o) : b ≠ a ∧ F b = some o := by
  by_cases e : b = a
  · subst e
    rw [but_eq] at h; cases h
  · rw [but_ne e] at h
    exact ⟨e, h⟩
mutual
theorem Dp_but {K : PySem.W.Frag} {F : Hp} {a : Addr} {o : Obj} {ws : List (List Key × V)} (h : F a = some (.frz o (.dT ws))) : ∀ {v : V} {d : PyData}, Dp K F v d → Dp K (but F a) v d
  | _, _, .non => .non
  | _, _, .bl b => .bl b
  | _, _, .int i => .int i
  | _, _, .str x => .str x
  | _, _, .lst hs q => .lst (by
      rcases hs with (hs | ⟨o', hs⟩) | hs
      · exact .inl (.inl (by rw [but_ne (fun z => by subst z; rw [h] at hs; cases hs)]; exact hs))
      · exact .inl (.inr ⟨o', by rw [but_ne (fun z => by subst z; rw [h] at hs; cases hs)]; exact hs⟩)
      · exact .inr hs) (DpAll_but h q)
  | _, _, .tup hs q => .tup (by
      show but F a _ = _
      rw [but_ne (fun z => by subst z; have hs' := hs; unfold SqT at hs'; rw [h] at hs'; cases hs')]
      exact hs) (DpAll_but h q)
theorem DpAll_but {K : PySem.W.Frag} {F : Hp} {a : Addr} {o : Obj} {ws : List (List Key × V)} (h : F a = some (.frz o (.dT ws))) : ∀ {vs : List V} {ds : List PyData}, DpAll K F vs ds → DpAll K (but F a) vs ds
  | _, _, .nil => .nil
  | _, _, .cons q r => .cons (Dp_but h q) (DpAll_but h r)
end
theorem noFrz_of {ρ : Dn.Env} (h : Dn.noFrz ρ = true) {i : Nat} {kvs : List (List Int × PyData)} : ρ[i]? ≠ some (some (.frzT kvs)) := fun e => by
  have hm := List.mem_of_getElem? e
  have := List.all_eq_true.mp h _ hm
  cases this
theorem rds_forKeys {g : TG} {tb : TS} {fg : Dn.GF} {sb : Dn.SF} {gs : List Nat} (i : Nat) (hg : RdG K g fg gs) (hb : RdS K cl E tb sb) : RdS K cl E (tLock (tFor (iKeys (tVar i)) g tb)) (Dn.sForKeys i fg sb) := fun B F0 F H σ ρ R r e D p => by
  unfold Dn.sForKeys at e
  split at e
  · rename_i kvs hd
    obtain ⟨a, ws, h1, h2, h3, h4, h5⟩ := R.ownT i kvs hd
    refine ⟨a, .dT ws, h2, trivial, fun od => ?_⟩
    have hl : i < ρ.length := (List.getElem?_eq_some_iff.mp hd).1
    split at e
    · rename_i ρ' hfor
      split at e
      · rename_i hno
        cases e
        have sF : Same F (upd F a (.frz od (.dT ws))) := same_upd h4
        have ne_own : ∀ {j : Nat} {s : Dn.Sl} {b : Addr}, i ≠ j → ρ[j]? = some (some s) → (∀ d, s ≠ .dat d) → σ[j]? = some (some (.ref b)) → b ≠ a := fun {j s b} hj hs n he z => by
          subst z
          exact hj (R.dist i j b _ _ hd hs (fun d z => by cases z) n h1 he)
        have get : ∀ {j : Nat} {s : Dn.Sl}, (ρ.set i (some (.frzT kvs)))[j]? = some (some s) → (i = j ∧ s = .frzT kvs) ∨ (i ≠ j ∧ ρ[j]? = some (some s)) := fun {j s} h => by
          by_cases hj : i = j
          · subst hj
            rw [List.getElem?_set_self hl] at h
            cases h
            exact .inl ⟨rfl, rfl⟩
          · rw [List.getElem?_set_ne hj] at h
            exact .inr ⟨hj, h⟩
        have sU : ∀ {G : Hp}, Same G H → Same (upd G a (.frz od (.dT ws))) (upd H a (.frz od (.dT ws))) := fun {G} s b o h => by
          by_cases hb : b = a
          · subst hb; rw [upd_same] at h ⊢; exact h
          · rw [upd_ne hb] at h ⊢; exact s b o h
        have R1 : Rp K (upd B a (.frz od (.dT ws))) (upd F a (.frz od (.dT ws))) (upd F a (.frz od (.dT ws))) (upd H a (.frz od (.dT ws))) σ (ρ.set i (some (.frzT kvs))) := by
          refine ⟨sU R.bh, Same.refl _, sU R.fh, fun b o h => .inl h, by rw [List.length_set]; exact R.len, fun j d h => ?_, fun j es h => ?_, fun j es h => ?_, fun j es h => ?_, fun j k b s s' k1 k2 n1 n2 g1 g2 => ?_⟩
          · rcases get h with ⟨_, z⟩ | ⟨_, h⟩
            · cases z
            · obtain ⟨v, q1, q2⟩ := R.dat j d h
              exact ⟨v, q1, Dp_mono sF q2⟩
          · rcases get h with ⟨_, z⟩ | ⟨hj, h⟩
            · cases z
            · obtain ⟨b, vs, q1, q2, q3, q4, q5⟩ := R.own j es h
              have hne := ne_own hj h (fun d z => by cases z) q1
              exact ⟨b, vs, q1, by rw [upd_ne hne]; exact q2, by rw [upd_ne hne]; exact q3, by rw [upd_ne hne]; exact q4, DpAll_mono sF q5⟩
          · rcases get h with ⟨_, z⟩ | ⟨hj, h⟩
            · cases z
            · obtain ⟨b, vs, q1, q2, q3, q4, q5⟩ := R.ownT j es h
              have hne := ne_own hj h (fun d z => by cases z) q1
              exact ⟨b, vs, q1, by rw [upd_ne hne]; exact q2, by rw [upd_ne hne]; exact q3, by rw [upd_ne hne]; exact q4, paired_mono q5 fun _ _ q => ⟨q.1, Dp_mono sF q.2⟩⟩
          · rcases get h with ⟨rfl, z⟩ | ⟨hj, h⟩
            · cases z
              exact ⟨a, ws, od, h1, upd_same, paired_mono h5 fun _ _ q => ⟨q.1, Dp_mono sF q.2⟩⟩
            · obtain ⟨b, vs, o, q1, q2, q5⟩ := R.frzT j es h
              have hne := ne_own hj h (fun d z => by cases z) q1
              exact ⟨b, vs, o, q1, by rw [upd_ne hne]; exact q2, paired_mono q5 fun _ _ q => ⟨q.1, Dp_mono sF q.2⟩⟩
          · have conv : ∀ {j : Nat} {s : Dn.Sl}, (ρ.set i (some (.frzT kvs)))[j]? = some (some s) → (∀ d, s ≠ .dat d) → ∃ s0 : Dn.Sl, ρ[j]? = some (some s0) ∧ ∀ d, s0 ≠ .dat d := fun {j s} h n => by
              rcases get h with ⟨rfl, z⟩ | ⟨hj, h⟩
              · exact ⟨_, hd, fun d z => by cases z⟩
              · exact ⟨s, h, n⟩
            obtain ⟨s0, m1, m2⟩ := conv k1 n1
            obtain ⟨s1, m3, m4⟩ := conv k2 n2
            exact R.dist j k b s0 s1 m1 m3 m2 m4 g1 g2
        have hiter : RdI K cl E (iKeys (tVar i)) (fun ρ0 => match ρ0[i]? with | some (some (.frzT _)) => some (.ok (Dn.keysT kvs)) | _ => none) → True := fun _ => trivial
        -- the loop itself
        refine ⟨.ref a, h1, a, od, rfl, .inr ⟨ws, upd_same, ?_⟩⟩
        have wk : Walk K (Itkt a od ws) (upd F a (.frz od (.dT ws))) (Dn.keysT kvs) := walk_keys upd_same (paired_mono h5 fun _ _ q => ⟨q.1, Dp_mono sF q.2⟩)
        let wi : TI := fun _ H1 Q => Q (Itkt a od ws) H1
        have lp : RdS K cl E (tFor wi g tb) (Dn.sFor (fun _ => some (.ok (Dn.keysT kvs))) fg sb) → True := fun _ => trivial
        have body : ∀ (D' : Ends), Post K cl E (upd B a (.frz od (.dT ws))) (upd F a (.frz od (.dT ws))) D' (.nx ρ') → tFor wi g tb D' σ (upd H a (.frz od (.dT ws))) := fun D' pp => by
          refine ⟨fun m n σ' H' => m + n = (Dn.keysT kvs).length ∧ ∃ F' ρ0, Rp K (upd B a (.frz od (.dT ws))) (upd F a (.frz od (.dT ws))) F' H' σ' ρ0 ∧ Dn.forL fg sb ((Dn.keysT kvs).drop m) ρ0 = some (.nx ρ'), ⟨(Dn.keysT kvs).length, by omega, _, _, R1, hfor⟩, ?_⟩
          rintro m n σ' H' ⟨him, F', ρ0, R', hf⟩
          by_cases hlt : m < (Dn.keysT kvs).length
          · rw [List.drop_eq_getElem_cons hlt] at hf
            unfold Dn.forL at hf
            cases hg1 : fg (Dn.keysT kvs)[m] ρ0 with
            | none => rw [hg1] at hf; cases hf
            | some ρ1 =>
              rw [hg1] at hf
              simp only at hf
              cases hb1 : sb ρ1 with
              | none => rw [hb1] at hf; cases hf
              | some o =>
                rw [hb1] at hf
                refine .inr ⟨wk.go m H' (R'.ff.trans R'.fh) hlt, fun σ'' H'' => ∃ F'' ρ'', Rp K (upd B a (.frz od (.dT ws))) (upd F a (.frz od (.dT ws))) F'' H'' σ'' ρ'' ∧ Dn.forL fg sb ((Dn.keysT kvs).drop (m + 1)) ρ'' = some (.nx ρ'), fun σ'' H'' ⟨F'', ρ'', R'', h''⟩ => ⟨n - 1, by omega, by omega, F'', ρ'', R'', h''⟩, fun x H'' hy => ?_⟩
                obtain ⟨d', F'', hd', ex, q⟩ := wk.yld m F' H' x H'' R'.ff R'.fh hy hlt
                have ed : d' = (Dn.keysT kvs)[m] := by
                  rw [List.getElem?_eq_getElem hlt] at hd'
                  exact (Option.some.inj hd').symm
                subst ed
                refine hg _ _ F'' H'' σ' ρ0 x _ ρ1 (R'.ext ex) q hg1 _ fun σ2 R2 _ => hb _ _ F'' H'' σ2 ρ1 R2 o hb1 _ ?_
                cases o with
                | nx ρ2 => exact fun F3 H3 σ3 R3 => ⟨F3, ρ2, R3, hf⟩
                | ct ρ2 => exact fun F3 H3 σ3 R3 => ⟨F3, ρ2, R3, hf⟩
                | bk ρ2 =>
                  have e3 := Option.some.inj hf
                  cases e3
                  exact fun F3 H3 σ3 R3 => pp F3 H3 σ3 R3
                | rt d =>
                  have e3 := Option.some.inj hf
                  cases e3
                | exc c =>
                  have e3 := Option.some.inj hf
                  cases e3
          · rw [List.drop_eq_nil_of_le (by omega)] at hf
            have e3 := Option.some.inj hf
            cases e3
            exact .inl ⟨wk.stop m H' (R'.ff.trans R'.fh) (by omega), pp F' H' σ' R'⟩
        refine body _ ?_
        intro F' H' σ' R'
        have hF' : F' a = some (.frz od (.dT ws)) := R'.ff _ _ upd_same
        refine ⟨R'.fh _ _ hF', ?_⟩
        have hF0 : F0 a = none := R.ff.free h4
        refine p (but F' a) (upd H' a (.dT ws)) σ' ⟨fun b o h => ?_, fun b o h => ?_, fun b o h => ?_, fun b o h => ?_, by rw [List.length_set]; exact R'.len, fun j d h => ?_, fun j es h => ?_, fun j es h => ?_, fun j es h => ?_, fun j k b s s' k1 k2 n1 n2 g1 g2 => ?_⟩
        · have hne : b ≠ a := fun z => by subst z; rw [h3] at h; cases h
          rw [upd_ne hne]
          exact R'.bh b o (by rw [upd_ne hne]; exact h)
        · have hne : b ≠ a := fun z => by subst z; rw [hF0] at h; cases h
          rw [but_ne hne]
          exact R'.ff b o (by rw [upd_ne hne]; exact R.ff b o h)
        · obtain ⟨hne, h'⟩ := but_some h
          rw [upd_ne hne]
          exact R'.fh b o h'
        · obtain ⟨hne, h'⟩ := but_some h
          rcases R'.nb b o h' with z | z | z
          · rw [upd_ne hne] at z; exact R.nb b o z
          · rw [upd_ne hne] at z; exact .inr (.inl z)
          · exact .inr (.inr z)
        · by_cases hj : i = j
          · subst hj
            rw [List.getElem?_set_self'] at h
            cases hz : ρ'[i]? with
            | none => rw [hz] at h; cases h
            | some z => rw [hz] at h; cases h
          · rw [List.getElem?_set_ne hj] at h
            obtain ⟨v, q1, q2⟩ := R'.dat j d h
            exact ⟨v, q1, Dp_but hF' q2⟩
        · by_cases hj : i = j
          · subst hj
            rw [List.getElem?_set_self'] at h
            cases hz : ρ'[i]? with
            | none => rw [hz] at h; cases h
            | some z => rw [hz] at h; cases h
          · rw [List.getElem?_set_ne hj] at h
            obtain ⟨b, vs, q1, q2, q3, q4, q5⟩ := R'.own j es h
            have hne : b ≠ a := fun z => by subst z; rw [upd_same] at q3; cases q3
            exact ⟨b, vs, q1, by rw [upd_ne hne]; exact q2, by rw [upd_ne hne] at q3; exact q3, by rw [but_ne hne]; exact q4, DpAll_but hF' q5⟩
        · by_cases hj : i = j
          · subst hj
            rw [List.getElem?_set_self'] at h
            cases hz : ρ'[i]? with
            | none => rw [hz] at h; cases h
            | some z => rw [hz] at h; cases h
          · rw [List.getElem?_set_ne hj] at h
            obtain ⟨b, vs, q1, q2, q3, q4, q5⟩ := R'.ownT j es h
            have hne : b ≠ a := fun z => by subst z; rw [upd_same] at q3; cases q3
            exact ⟨b, vs, q1, by rw [upd_ne hne]; exact q2, by rw [upd_ne hne] at q3; exact q3, by rw [but_ne hne]; exact q4, paired_mono q5 fun _ _ q => ⟨q.1, Dp_but hF' q.2⟩⟩
        · exact absurd h (noFrz_of hno)
        · have conv : ∀ {j : Nat} {s : Dn.Sl}, (ρ'.set i none)[j]? = some (some s) → ρ'[j]? = some (some s) := fun {j s} h => by
            by_cases hj : i = j
            · subst hj
              rw [List.getElem?_set_self'] at h
              cases hz : ρ'[i]? with
              | none => rw [hz] at h; cases h
              | some z => rw [hz] at h; cases h
            · rw [List.getElem?_set_ne hj] at h
              exact h
          exact R'.dist j k b s s' (conv k1) (conv k2) n1 n2 g1 g2
      · cases e
    · cases e
  · cases e
end
end Dw

set_option maxHeartbeats 4400000
/-! Dw6: sorted. -/
namespace Dw
open PySem PySem.Spec PyProof.Rows L2
section
variable {X : Cx}
/-- a value that stands for a datum -/
def Stands (K : PySem.W.Frag) (F : Hp) (u : Value) (d : PyData) : Prop := ∃ x, RelV x u ∧ Dp K F x d
theorem each_of {K : PySem.W.Frag} {F : Hp} : ∀ {vs : List V} {us : List Value} {ds : List PyData}, DpAll K F vs ds → Vals vs us → PySem.W.EachIs (Stands K F) us ds
  | _, _, _, .nil, r => by
    cases r
    exact .nil
  | _, _, _, .cons h t, r => by
    cases r with
    | cons r1 r2 => exact .cons ⟨_, r1, h⟩ (each_of t r2)
theorem of_each {K : PySem.W.Frag} {F : Hp} : ∀ {us : List Value} {ds : List PyData}, PySem.W.EachIs (Stands K F) us ds → ∃ vs, DpAll K F vs ds ∧ Vals vs us
  | _, _, .nil => ⟨[], .nil, .nil⟩
  | _, _, .cons ⟨x, r, h⟩ t => by
    obtain ⟨vs, h1, h2⟩ := of_each t
    exact ⟨x :: vs, .cons h h1, .cons r h2⟩
theorem each_mono {α β : Type} {R S : α → β → Prop} (f : ∀ a b, R a b → S a b) : ∀ {as : List α} {bs : List β}, PySem.W.EachIs R as bs → PySem.W.EachIs S as bs
  | _, _, .nil => .nil
  | _, _, .cons h t => .cons (f _ _ h) (each_mono f t)
theorem depth_mem : ∀ {xs : List PyData} {d : PyData}, d ∈ xs → d.depth ≤ PyData.depthAll xs
  | x :: xs, d, h => by
    rw [PyData.depthAll]
    rcases List.mem_cons.mp h with h | h
    · rw [h]; exact Nat.le_max_left _ _
    · exact Nat.le_trans (depth_mem h) (Nat.le_max_right _ _)
theorem sortOk_of {xs : List PyData} (h : Dn.sortOk xs = true) : PySem.W.AllAlike xs ∧ PySem.W.Sortable xs ∧ PyData.depthAll xs ≤ 50 ∧ xs.length ≤ 1000 := by
  unfold Dn.sortOk at h
  simp only [Bool.and_eq_true, decide_eq_true_eq, List.all_eq_true] at h
  obtain ⟨⟨⟨h1, h2⟩, h3⟩, h4⟩ := h
  refine ⟨fun d hd d' hd' => h1 d hd d' hd', .inl fun d hd => ?_, h3, h4⟩
  have := h2 d hd
  cases d with
  | tuple ys =>
    cases ys with
    | nil => cases this
    | cons y ys => exact ⟨y, ys, rfl⟩
  | none => cases this
  | bool b => cases this
  | int b => cases this
  | str b => cases this
  | list b => cases this
  | dict b => cases this
theorem cr_sortX (hu : X.A.units + 64 < cLine) : CallR X (.builtin "sorted") (rN1 X.K Dn.sortD) := by
  intro pins s σ H xs us Q I r h
  obtain ⟨x, F, d, ds, rfl, hs, wx, hg, q⟩ := h
  obtain ⟨zs, hz, e⟩ := Option.bind_eq_some_iff.mp hg
  split at e
  · rename_i hok
    cases e
    obtain ⟨k1, k2, k3, k4⟩ := sortOk_of hok
    cases d with
    | list ys =>
      cases hz
      obtain ⟨a, vs, rfl, h1, h2⟩ := wx.list hs
      obtain ⟨u, rfl, rx⟩ := vals1 r
      cases rx
      obtain ⟨its, rv, pl, hlen⟩ := I.list h1
      have hE : PySem.W.EachIs (Stands X.K F) its zs := each_of h2 rv
      have hid : zs.map id = zs := List.map_id zs
      have hR : PySem.W.EachIs (fun v b => ∃ as, Reads s.heap v (id b) as) its zs := each_mono (fun v b ⟨x, rr, hd⟩ => Dp.reads I b x v (Dp_mono hs hd) rr) hE
      refine PySem.W.sorted_data (enc := id) pl.isList hE hR (by rw [hid]; exact k1) (by rw [hid]; exact k2) (Nat.le_of_lt (lineM (by omega))) (fun b hb => ?_) fun out hol hout => ?_
      · have := depth_mem hb
        show X.A.units + 2 + b.depth < cLine
        omega
      · obtain ⟨ws, q1, q2⟩ := of_each hout
        have hold : ∀ b o, s.heap.get? b = some o → (sortedAll s.heap its out.toArray).get? b = some o := fun b o e => sortedAll_old e
        obtain ⟨n, hat⟩ := sortedAll_at s.heap its out.toArray
        have hfree : H (s.heap.objs.size + 1) = none := I.hok.fresh (Nat.le_succ _)
        have hwl : ws.length ≤ sizeLine := by
          rw [q2.length, hol]
          exact Nat.le_of_lt (lineM (by omega))
        have I2 : Inv X pins σ (upd H (s.heap.objs.size + 1) (.lst ws)) { s with heap := sortedAll s.heap its out.toArray } :=
          I.laid (t' := s.toks) hold (Nat.le_succ _) ⟨hwl, out, n, q2, hat⟩
        refine ⟨.ref (s.heap.objs.size + 1), _, I2, rfl, q _ ws F _ (Ext.freshO hs _ hfree) hfree (hs.free hfree) upd_same ?_⟩
        exact q1
    | none => cases hz
    | bool b => cases hz
    | int b => cases hz
    | str b => cases hz
    | tuple b => cases hz
    | dict b => cases hz
  · cases e
end
end Dw

set_option maxHeartbeats 4400000
namespace Dw
open PySem PySem.Spec PyProof.Rows L2
/-- a def that answers g -/
structure Ca (P : Program) (w : World) (K : PySem.W.Frag) (mg : Str → Option Value) (base : Heap) (cl : Str → Value) (CX : CXT) (x : Str) (k n : Nat) (g : Dn.FF) (f : Addr) (fd : FuncData) (ps : List Str) : Prop where
  ok : FnOk P w K mg base CX k f fd ps (spF K cl n g)
  gl : mg x = some (.ref f)
  kp : PySem.W.keepIn K (.ref f) = true
  bi : Binds K fd ps []
def Cal (P : Program) (w : World) (K : PySem.W.Frag) (mg : Str → Option Value) (base : Heap) (cl : Str → Value) (CX : CXT) (x : Str) (k n : Nat) (g : Dn.FF) : Prop := ∃ f fd ps, Ca P w K mg base cl CX x k n g f fd ps
def Df (K : PySem.W.Frag) (mg : Str → Option Value) (x : Str) (st : Stmt) : Prop := ∃ f fd, Fun K x x st f fd ∧ mg x = some (.ref f)
/-- how many arguments -/
inductive AL : Dn.AF → Nat → Prop
  | nil : AL Dn.aNil 0
  | cons {fa : Dn.EF} {fr : Dn.AF} {n : Nat} : AL fr n → AL (Dn.aCons fa fr) (n + 1)
theorem AL.len {fs : Dn.AF} {n : Nat} (h : AL fs n) : ∀ ρ ds, fs ρ = some (.ok ds) → ds.length = n := by
  induction h with
  | nil =>
    intro ρ ds e
    cases e
    rfl
  | cons _ ih =>
    intro ρ ds e
    rcases bnd_cases e with ⟨a, e1, e2⟩ | ⟨c, _, e2⟩
    · rcases bnd_cases e2 with ⟨b, e3, e4⟩ | ⟨c, _, e4⟩
      · cases e4
        rw [List.length_cons, ih ρ b e3]
      · cases e4
    · cases e2
end Dw
namespace Dw
open PySem PySem.Spec PyProof.Rows L2
/-- a def as the top has written it -/
def DfK (K : PySem.W.Frag) (x : Str) (st : Stmt) : Prop := ∃ (f : Addr), PySem.W.nsIn K mainGlobals x = some (some (.ref f)) ∧ ∃ (oc : Value) (od : Option Addr) (kV dc pm : Value) (an : Option Addr) (cd ct : Value) (sl : Array (Option Value)),
  K.lookup f = some ⟨oc, od, .func (PySem.W.fnOf x x (defArgs st) (defBody st) (defScope st) .none kV dc pm an cd ct), sl⟩ ∧ PySem.W.codeIn K cd x = true ∧ PySem.W.keepIn K (.ref f) = true
theorem DfK.df {K : PySem.W.Frag} {h : Heap} {mg : Str → Option Value} {x : Str} {st : Stmt} (X : K.In h) (G : h.Ns mainGlobals mg) (d : DfK K x st) : Df K mg x st := by
  obtain ⟨f, a, oc, od, kV, dc, pm, an, cd, ct, sl, l, c, k⟩ := d
  exact ⟨f, _, fun_mk l c k, PySem.W.mg_of X G a⟩
def spL (K : PySem.W.Frag) (g : Dn.FF) : Sp := spF K (fun _ => .none) 1 (noX g)
theorem law_end {P : Program} {w : World} {K : PySem.W.Frag} {mg : Str → Option Value} {cl : Str → Value} {fa : Addr} {x p : Str} {st : Stmt} {k : Nat} {g : Dn.FF} (hfa : mg x = some (.ref fa)) (D : Df K mg x st) (hb : ∀ f fd, Fun K x x st f fd → ∀ (s : Shared) (u : Value), BindsTo s fd ⟨[u], []⟩ [(p, u)])
    (h : ∀ base : Heap, K.In base → base.Ns mainGlobals mg → ∀ f fd, Fun K x x st f fd → FnOk P w K mg base CX0 k f fd [p] (spF K cl 1 (noX g))) :
    ∃ fd : FuncData, (∀ (s : Shared) (u : Value), BindsTo s fd ⟨[u], []⟩ [(p, u)]) ∧ ∀ base : Heap, K.In base → base.Ns mainGlobals mg → FnOk P w K mg base CX0 k fa fd [p] (spL K g) := by
  obtain ⟨f, fd, F, gl⟩ := D
  rw [hfa] at gl
  cases gl
  exact ⟨fd, hb _ _ F, fun base b1 b2 => (h base b1 b2 _ _ F).imp fun vs H Q E ⟨F, ds, r, h1, h2, h3, h4, h5, h6⟩ => ⟨F, ds, r, h1, h2, h3, h4, h5, fun c ec => by
    obtain ⟨_, d, hd⟩ := noX_ok h4
    rw [hd] at ec; cases ec⟩⟩
theorem dp_intsL {K : PySem.W.Frag} {F : Hp} : ∀ ns : List Int, DpAll K F (ns.map V.int) (ns.map .int)
  | [] => .nil
  | n :: ns => .cons (.int n) (dp_intsL ns)
theorem law_sp {K : PySem.W.Frag} {H : Hp} {a : Addr} {ns : List Int} {g : Dn.FF} (hS : SqL K H a (ns.map V.int)) (h : Dn.noX g [.list (ns.map .int)] = some (.ok (.bool true))) : spL K g [.ref a] H (fun v _ => v = .bl true) fun _ _ _ => False :=
  ⟨H, [.list (ns.map .int)], .ok (.bool true), rfl, Same.refl _, .cons (.lst hS (dp_intsL ns)) .nil, h, fun d e v F' H' x q => by
    cases e
    cases q
    rfl, fun c e => by cases e⟩
end Dw

set_option maxHeartbeats 4400000
/-! enumerate, of a tuple too -/
namespace Dw
open PySem PySem.Spec PyProof.Rows L2
/-! ### enumerate(v) is made -/
/-- behind h two new objects: o, an iterator, and the counter over it -/
structure Enum2 (h h1 : Heap) (o : Obj) : Prop where
  cnt : IsEnum h1 (h.objs.size + 1) h.objs.size 0 .none
  itr : h1.get? h.objs.size = some o
  more : ∀ b x, h.get? b = some x → h1.get? b = some x
abbrev enumNew (it : Addr) : Obj := { cls := .type "enumerate", data := .fields #[.none, .bool false, .ref it, rawInt 0, .none, .none] }
theorem enum2 (h : Heap) {o : Obj} (free : o.isFreed = false) : Enum2 h ((h.push o).push (enumNew h.objs.size)) o := by
  have c := Heap.get?_push_size (h.push o) (o := enumNew h.objs.size) rfl
  rw [Heap.size_push] at c
  exact ⟨c, Heap.get?_push_of_some _ (Heap.get?_push_size _ free), fun b x e => Heap.get?_push_of_some _ (Heap.get?_push_of_some _ e)⟩
theorem meets_enum1 {v : Value} {o : Obj} {H : Heap → Prop} (B : Begins v o H) :
    Meets (Builtin.«enumerate.__new__» ⟨[.type "enumerate", v], []⟩) (fun _ R s => H s.heap ∧ R (.ok (.ret (.ref (s.heap.objs.size + 1)))) { s with heap := (s.heap.push o).push (enumNew s.heap.objs.size) }) :=
  .of_wp fun prog w A R ⟨hp, gs, dr, tk, os⟩ ⟨hH, fin⟩ => by
    have sub := sub_enumerate
    have starts : ∀ {A1 : Around} {E1 Q1 : Value → Shared → Prop}, Q1 (.ref hp.objs.size) ⟨hp.push o, gs, dr, tk, os⟩ → wpAny (model prog w) A1 (pyIter v) Q1 E1 ⟨hp, gs, dr, tk, os⟩ := fun q => B.iter prog w _ _ _ _ hH q
    have fin : R (.ok (.ret (.ref (hp.push o).objs.size))) ⟨(hp.push o).push (enumNew hp.objs.size), gs, dr, tk, os⟩ := by rw [Heap.size_push]; exact fin
    wp_walk using starts
    refine wpAny_stack_any fun _ => wpAny_pure ?_
    split
    · next c _ _ _ _ _ => cases (c == Value.type "enumerate") <;> (wp_walk using starts; exact ⟨_, rfl, fin⟩)
    · wp_walk using starts
      exact ⟨_, rfl, fin⟩
theorem call_enum1 {prog : Program} {w : World} {A : Around} {E : Value → Shared → Prop} {s : Shared} {v : Value} {o : Obj} {H : Heap → Prop} {Q : Value → Shared → Prop} (B : Begins v o H) (hH : H s.heap)
    (fin : ∀ h1, Enum2 s.heap h1 o → Q (.ref (s.heap.objs.size + 1)) { s with heap := h1 }) : wpAny (model prog w) A (call (.type "enumerate") [v]) Q E s :=
  callType_new F.called_enumerate (by decide) (F.typeCall_enumerate_1 _) (F.newCall_enumerate_1 _) (fun obj => F.args_object_init_2 obj _) F.entry_enumerate_new (meets_enum1 B) ⟨hH, ⟨_, (enum2 s.heap B.free).cnt, rfl⟩, fin _ (enum2 s.heap B.free)⟩
/-! ### over a tuple -/
/-- the tuple at a, n long -/
def AtT (K : PySem.W.Frag) (a : Addr) (n : Nat) (H : Hp) (xs : List V) : Prop := SqT K H a xs ∧ xs.length = n
/-- its items, counted -/
def counted (xs : List V) (i : Nat) : Option (V × V) := xs[i]?.map fun x => (.int (i : Nat), x)
def IteT (K : PySem.W.Frag) (a : Addr) (n : Nat) : It := Itp (AtT K a n) counted n
theorem src_enumT {X : Cx} {pins : List (Addr × Obj)} {σ : L2.St} {H : Hp} {s : Shared} {a e it : Addr} {n : Nat} {xs : List V} (ne : e ≠ it) (calm : X.calm = true) (I : Inv X pins σ H s) (free : ∀ b ∈ [e, it], H b = none) (hx : AtT X.K a n H xs) :
    Src (AtT X.K a n) counted n X.prog X.w X.A e [e, it] (fun i h => (∃ old, IsEnum h e it ((i : Nat) : Int) old) ∧ h.IsTupleIter it a i ∧ i ≤ n) s.heap xs := by
  obtain ⟨hq, rfl⟩ := hx
  obtain ⟨its, rv, p, -⟩ := I.tuple hq.l2
  have off : ∀ b ∈ [e, it], a ≠ b := fun b hb z => by
    have q := free b hb
    rw [← z, show H a = _ from hq] at q
    cases q
  have Wk := WalksT.enumerateD (prog := X.prog) (w := X.w) (A := X.A) (Draws.tuple (A := X.A.in1) (I.ok.hd calm) it a (off it (by simp)) its.toArray) e ne (by simp [ne, (off e (by simp)).symm]) (by simp)
  rw [show its.toArray.size = xs.length by rw [List.size_toArray, rv.length]] at Wk
  refine ⟨_, _, _, _, Wk, fun i st => ⟨st.1, st.2.1, p⟩, fun i g le st => ⟨st.1, st.2.1, le⟩, fun i vals pr hr hP => ?_⟩
  obtain ⟨t, u, hu, rfl⟩ := hP
  obtain ⟨x, hx, rfl⟩ := Option.map_eq_some_iff.mp hr
  obtain ⟨u', hu', ru⟩ := rv.get hx
  obtain rfl : u' = u := Option.some.inj (hu'.symm.trans (by simpa using hu))
  exact ⟨_, _, rfl, ⟨_, rfl⟩, ru⟩
theorem turn_enumT {P : Program} {w : World} {K : PySem.W.Frag} {elts : List Expr} {kk : Nat} {tpos : Pos} (a e it : Addr) (n : Nat) (ne : e ≠ it) :
    Turn P w K (.Tuple elts kk tpos) (IteT K a n) [e, it] e (fun i h => (∃ old, IsEnum h e it ((i : Nat) : Int) old) ∧ h.IsTupleIter it a i ∧ i ≤ n) :=
  turn_pairs (wr := [e, it]) (by simp) (fun _ hb => hb) (fun _ _ st => st.2.2)
    (fun i h ⟨⟨old, he⟩, ⟨o, ho, _, hd⟩, _⟩ => by
      simp only [List.mem_cons, List.not_mem_nil, or_false, forall_eq_or_imp, forall_eq]
      exact ⟨⟨_, he, no_cell rfl⟩, o, ho, no_cell hd⟩)
    (fun i h h' ⟨⟨old, he⟩, hi, le⟩ k => ⟨⟨old, k e (by simp) _ he⟩, hi.at (k it (by simp)), le⟩)
    (fun A i s Q E ⟨⟨_, he⟩, _⟩ q => wpAny_pyIter_enum he q)
    (fun X pins σ H s d d' eK I h1 h2 => by
      have q := h1.1.symm.trans h2.1
      cases q
      rfl)
    fun X eK calm pins σ H s xs I free hx => by
      subst eK
      exact src_enumT ne calm I free hx
/-- a list or a tuple -/
def iEnumA (K : PySem.W.Frag) (ta : TA) : TI := fun σ H R => ta σ H fun vs H1 => ∃ a xs, vs = [.ref a] ∧ ((SqL K H1 a xs ∧ R (Ite K a) H1) ∨ (SqT K H1 a xs ∧ R (IteT K a xs.length) H1))
theorem pi_enumA {X : Cx} {e : Expr} {ta : TA} {p pos tpos : Pos} {elts : List Expr} {kk : Nat} (hg : Gl X "enumerate") (hm : X.mg "enumerate" = none) (ha : PA X [e] ta) (hs : starEach [e] X.env = [(false, eval e X.env)] := by rfl) :
    PI X (.Tuple elts kk tpos) (.Call (.Name "enumerate" p) [e] [] pos) (iEnumA X.K ta) := by
  refine ⟨fun pins s σ H R I h => Call_ (ld_blt I hg hm boot_enumerate (PyProof.Rows.callWith_type1 (thn (ha.run pos pins s σ H _ I h) fun us s1 got => ?_) hs rfl))⟩
  obtain ⟨vs, H1, I1, r1, a, xs, rfl, q⟩ := got
  obtain ⟨u, rfl, ru⟩ := vals1 r1
  obtain rfl : u = .ref a := ru
  have new : ∀ b ∈ [s1.heap.objs.size + 1, s1.heap.objs.size], s1.heap.objs.size ≤ b := by
    intro b hb
    simp only [List.mem_cons, List.not_mem_nil, or_false] at hb
    exact hb.elim (fun z => z ▸ Nat.le_succ _) (fun z => z ▸ Nat.le_refl _)
  rcases q with ⟨hq, q⟩ | ⟨hq, q⟩
  · obtain ⟨its, -, p, -⟩ := I1.list hq
    exact call_enum1 (begins_list a its.toArray) p.isList fun h1 En => wpAny_pyIter_enum En.cnt (pie_new I1 (turn_enum a (s1.heap.objs.size + 1) s1.heap.objs.size) En.more new ⟨⟨.none, En.cnt⟩, ⟨_, En.itr, rfl, rfl⟩, Nat.succ_ne_self _⟩ q)
  · obtain ⟨its, -, p, -⟩ := I1.tuple hq.l2
    exact call_enum1 (begins_tuple a its.toArray) p fun h1 En => wpAny_pyIter_enum En.cnt (pie_new I1 (turn_enumT a (s1.heap.objs.size + 1) s1.heap.objs.size xs.length (Nat.succ_ne_self _)) En.more new ⟨⟨.none, En.cnt⟩, ⟨_, En.itr, rfl, rfl⟩, Nat.zero_le _⟩ q)
end Dw
namespace Dw
open PySem PySem.Spec PyProof.Rows L2
theorem walk_enumT {K : PySem.W.Frag} {F : Hp} {a : Addr} {vs : List V} {ds : List PyData} (h : SqT K F a vs) (q : DpAll K F vs ds) : Walk K (IteT K a vs.length) F (Dn.enumL 0 ds) := by
  have len : (Dn.enumL 0 ds).length = vs.length := (enumL_len ..).trans (DpAll_len q).symm
  have Wk : Walk K (Itp (AtT K a vs.length) counted (Dn.enumL 0 ds).length) F (Dn.enumL 0 ds) := walk_pairs vs (fun H sm => ⟨sqt_mono sm h, rfl⟩) fun i lt => by
    rw [len] at lt
    obtain ⟨d, hd, hv⟩ := DpAll_getV q (List.getElem?_eq_getElem lt)
    have row := enumL_get (k := 0) hd
    rw [Nat.zero_add] at row
    exact ⟨(.int (i : Nat), vs[i]), _, d, by simp [counted, List.getElem?_eq_getElem lt], row, .int _, hv⟩
  rw [len] at Wk
  exact Wk
theorem rdi_enumA {K : PySem.W.Frag} {cl : Str → Value} {E : XK} {t : TE} {f : Dn.EF} (h : Rd K cl E t f) : RdI K cl E (iEnumA K (tCons t tNil)) (Dn.iEnumA f) := fun B F0 F H σ ρ R r e Q ok ex => by
  rcases bnd_cases e with ⟨a, e1, e2⟩ | ⟨c, e1, rfl⟩
  · refine h B F0 F H σ ρ R _ e1 _ (fun d ed v F1 H1 x1 w => ?_) (fun c ec => by cases ec)
    cases ed
    obtain ⟨ds, ez, rfl⟩ := lft_cases e2
    cases w with
    | lst hs ha =>
      cases ez
      exact ⟨_, _, rfl, .inl ⟨x1.s.seq hs, ok _ rfl _ F1 H1 x1 (walk_enum hs ha)⟩⟩
    | tup hs ha =>
      cases ez
      exact ⟨_, _, rfl, .inr ⟨sqt_mono x1.s hs, ok _ rfl _ F1 H1 x1 (walk_enumT hs ha)⟩⟩
    | non => cases ez
    | bl b => cases ez
    | int i => cases ez
    | str i => cases ez
  · exact h B F0 F H σ ρ R _ e1 _ (fun d ed => by cases ed) (fun c' ec F' H' x => by cases ec; exact ex c rfl F' H' x)
end Dw

set_option maxHeartbeats 4400000
/-! Dw9: exceptions. any(list) while one is handled. -/
namespace Dw
open PySem PySem.Spec PyProof.Rows L2 HotX
section
variable {prog : Program} {w : World} {A : Around} {E : Value → Shared → Prop} {s : Shared}
/-- the handled exception stays where its object does -/
theorem hot_keep {x : Addr} {h h1 : Heap} (hot : HotAt A x h) (k : ∀ o, h.get? x = some o → h1.get? x = some o) : HotAt A x h1 :=
  let ⟨hh, o, vs, ho, hd, hc⟩ := hot
  ⟨hh, o, vs, k o ho, hd, hc⟩
theorem hot_lt {x : Addr} {h : Heap} (hot : HotAt A x h) : x < h.objs.size := let ⟨_, _, _, ho, _⟩ := hot; Heap.lt_size ho
/-- StopIteration is raised anew while the exception at x is handled -/
theorem stop_hot {α : Type} {x : Addr} {Q : α → Shared → Prop} (hot : HotAt A x s.heap) (q : ∀ a h1, (∀ b o, s.heap.get? b = some o → h1.get? b = some o) → (∃ o, h1.get? a = some o ∧ o.cls = .type "StopIteration") → E (.ref a) { s with heap := h1 }) :
    wpAny (model prog w) A (newExc (.type "StopIteration") [] >>= raiseNew : Sem α) Q E s := by
  unfold newExc newTuple
  wp_walk
  have two : ∀ {o1 o2 : Obj} {b : Addr} {o : Obj}, s.heap.get? b = some o → ((s.heap.push o1).push o2).get? b = some o := fun e => Heap.get?_push_of_some _ (Heap.get?_push_of_some _ e)
  refine raiseNew_hot (hot_keep hot fun _ e => two e) (Nat.ne_of_lt (by rw [Heap.size_push]; exact Nat.lt_succ_of_lt (hot_lt hot))) (Heap.get?_push_size _ rfl) rfl (by simp; omega) (q _ _ (fun b o e => ?_) ⟨_, Heap.get?_update_self _ (Heap.get?_push_size _ rfl) rfl, rfl⟩)
  exact (Heap.get?_update_other _ _ (Nat.ne_of_gt (Heap.lt_size (Heap.get?_push_of_some _ e)))).trans (two e)
/-- a list's iterator at its end, meanwhile -/
theorem nextEnd_hot {it l x : Addr} {i : Nat} {vs : Array Value} {Q : Option Value → Shared → Prop} (hot : HotAt A x s.heap) (ne : x ≠ it) (hit : s.heap.IsListIter it l i) (hl : s.heap.IsList l vs) (last : vs[i]? = none)
    (q : ∀ h1, (∀ b o, b ≠ it → s.heap.get? b = some o → h1.get? b = some o) → Q none { s with heap := h1 }) : wpAny (model prog w) A (pyNext (.ref it)) Q E s := by
  have ⟨o, ho, _, hd⟩ := hit
  have ⟨ol, hol, _, _, hdl⟩ := hl
  have lst : ∀ {A1 : Around} {E1 Q1 : Value → Shared → Prop}, Q1 (.ref l) s → wpAny (model prog w) A1 (field (.ref it) 0) Q1 E1 s := wpAny_field ho hd rfl
  have at_ : ∀ {A1 : Around} {E1 Q1 : Value → Shared → Prop}, Q1 (.int i 0) s → wpAny (model prog w) A1 (field (.ref it) 1) Q1 E1 s := wpAny_field ho hd rfl
  have its : ∀ {A1 : Around} {E1 : Value → Shared → Prop} {Q1 : Option (Array Value) → Shared → Prop}, Q1 (some vs) s → wpAny (model prog w) A1 (seqItems? (.ref l)) Q1 E1 s := wpAny_seqItems hol hdl
  have sb := Heap.SameBut.update s.heap it (Obj.mapFields (·.setIfInBounds 0 .none))
  unfold pyNext
  refine wpAny_bind (wpAny_attempt (wpAny_callSpecial?_slot hit.typeIs slot_listiter_next (wpAny_call_entry slot_listiter_next hit.typeIs entry_listiter_next ?_ (args_listiter_next _))))
  unfold Builtin.«list_iterator.__next__»
  wp_walk using lst, at_, its
  rw [show (i : Int).toNat = i from Int.toNat_natCast i, last]
  refine wpAny_bind (wpAny_rule (wpAny_bind (wpAny_setField ho hd (Nat.zero_lt_succ _) (stop_hot (hot_keep hot fun o e => (sb.2 x ne).trans e) fun a h1 k ⟨oe, he, hc⟩ => ?_))))
  exact wpAny_bind (wpAny_isInstance (T := "StopIteration") (b := true) ⟨oe, he, hc⟩ isSubtype_stop (wpAny_pure (q h1 fun b ob nb e => k b ob ((sb.2 b nb).trans e))))
end
/-- a list gone through while an exception is handled -/
theorem walks_hot {prog : Program} {w : World} {A : Around} {x : Addr} (it l : Addr) (nl : l ≠ it) (nx : x ≠ it) (vs : Array Value) :
    Walks prog w A it [it, l, x] [it] vs.size (fun i v => vs[i]? = some v) (fun i h => (h.IsListIter it l i ∧ h.IsList l vs) ∧ HotAt A x h) where
  sub := by simp
  self := fun _ _ _ _ st => wpAny_pyIter_listiter st.1.1
  frame := fun _ _ _ ⟨⟨hi, hl⟩, hot⟩ k => ⟨⟨hi.at (k it (by simp)), hl.at (k l (by simp))⟩, hot_keep hot (k x (by simp))⟩
  item := fun i s Q E lt ⟨⟨hi, hl⟩, hot⟩ q => wpAny_pyNext_list_item hi hl (Array.getElem?_eq_getElem lt) fun h1 hi1 sb =>
    q _ h1 s.toks (Array.getElem?_eq_getElem lt) ⟨⟨hi1, hl.at fun o e => (sb.2 l nl).trans e⟩, hot_keep hot fun o e => (sb.2 x nx).trans e⟩ fun b o nb e => (sb.2 b fun z => nb (by simp [z])).trans e
  done := fun s Q E ⟨⟨hi, hl⟩, hot⟩ q => nextEnd_hot hot nx hi hl (Array.getElem?_eq_none (Nat.le_refl _)) fun h1 k => q h1 s.toks fun b o nb e => k b o (fun z => nb (by simp [z])) e
theorem cr_anyHot {X : Cx} (hc : L2H.HotC X) : CallR X (.builtin "any") (rAny X.K) := fun pins s σ H vs us Q I rv ⟨a, bs, ev, hs, q⟩ => by
  subst ev
  obtain ⟨x, hot⟩ := hc.at I
  obtain ⟨its, ri, hl, -⟩ := I.list hs
  have eb := ri.bls
  rw [Vals.ref1 rv]
  refine call_any_walk (iter_any hl.isList fun s2 e2 st nl => ⟨_, _, _, _, _, _, _, rfl, walks_hot (A := X.A.in1) (x := x) _ a nl (Nat.ne_of_lt (hot_lt hot)) its.toArray, ⟨st, ?_⟩, truth_bools eb, fun h1 tk k => ?_⟩)
  · subst e2
    exact hot_keep (A := X.A.in1) hot fun o e => Heap.get?_push_of_some _ e
  · subst e2
    refine ⟨.bl (bs.any id), H, I.kept fun b o e => k b o (fun z => Nat.lt_irrefl _ (List.mem_singleton.mp z ▸ Heap.lt_size e)) (Heap.get?_push_of_some _ e), ?_, q⟩
    show Value.bool _ = .bool _
    rw [← any_range bs, eb, List.size_toArray, List.length_map]
end Dw

set_option maxHeartbeats 4400000
/-! Dw10: raise, try. -/
namespace Dw
open PySem PySem.Spec PyProof.Rows L2
theorem passN {X : Cx} : Passes (L2N.CX X.prog X.w) X E0 := fun _ _ _ _ _ _ _ h => by
  obtain ⟨_, _, _, _, _, _, _, _, _, _, _, _, z⟩ := h
  exact z.elim
theorem takesN {X : Cx} : L2N.Takes X (fun _ _ _ _ => False) := fun _ _ x => by
  obtain ⟨_, _, _, _, _, _, _, _, _, _, _, _, _, _, _, _, z⟩ := x
  exact z.elim
section
variable {P : Program} {w : World} {K : PySem.W.Frag} {mg : Str → Option Value} {base : Heap} {cl : Str → Value}
/-- a def that may raise -/
theorem fn_okN {x qual : Str} {st : Stmt} {f : Addr} {fd : FuncData} {N ps : List Str} {k n : Nat} {b : Dn.SF} (F : Fun K x qual st f fd) (S : FnScope N ps (defScope st)) (hn : ps.length = n)
    (hbody : ∀ (cdv : Value) (A : Around) (outer : List Env) (s : Shared) (H : Hp) (E : XK), Room k (A.deeper (envOfC qual (defScope st) s.heap.objs.size f cdv)) →
      ∃ t, PSs (cxOf (L2N.CX P w) P w K mg base N qual (defScope st) f cdv A outer s H E) (defBody st) t ∧ RdS K cl E t b) : FnOk P w K mg base (L2N.CX P w) (k + 1) f fd ps (spF K cl n (Dn.runF n N.length b)) := by
  obtain ⟨oc, od, kV, doc, pm, an, cdv, ct, osl, rfl, lk, hcd⟩ := F.ex
  refine fn_of lk hcd S (fun vs H Q E h => ?_) fun A outer s H vs Q E hr hsp => ?_
  · obtain ⟨_, _, _, h1, _⟩ := h
    rw [h1, hn]
  · obtain ⟨t, h1, h2⟩ := hbody _ A outer s H E hr
    exact ⟨t, h1, run_body h2 hsp⟩
end
/-! raise -/
def tRz (C : Addr) (E : XK) : TS := fun _ _ H => E (.ref C) none H
structure XR (K : PySem.W.Frag) (mg : Str → Option Value) (x : Str) (C : Addr) : Prop where
  g : mg x = some (.ref C)
  k : PySem.W.keepIn K (.ref C) = true
  q : PySem.W.excIn K C [.type "ValueError", .type "Exception", .type "BaseException", .type "object"] "ValueError.__new__" = true
  s : PySem.W.subIn K (.ref C) (.type "BaseException") = some true
  t : PySem.W.typeIn K (.ref C) = some (.type "type")
theorem ps_raiseN {X : Cx} {E : XK} {x m : Str} {j : Nat} {p p2 pos pos2 : Pos} {C : Addr} (hc : X.calm = true) (tk : L2N.Takes X (fun cls d _ H => E cls d H)) (r : XR X.K X.mg x C) (hg : Gl X x) (hdb : (x == ("__debug__" : Str)) = false := by decide) :
    PS X (.Raise (some (.Call (.Name x p) [.Constant (.str m) j p2] [] pos)) none pos2) (tRz C E) :=
  L2N.ps_raise hc tk (L2N.pmk_own F.excBase_ValueError r.q r.g r.k (raises_own r.s r.t) hg hdb)
theorem rds_raise {K : PySem.W.Frag} {cl : Str → Value} {E : XK} {C : Addr} {c : Str} (h : cl c = .ref C) : RdS K cl E (tRz C E) (Dn.sExc c) := fun B F0 F H σ ρ R r e D p => by
  cases e
  have := p H R.bh
  rw [h] at this
  exact this
/-- a raising def, where it does not raise -/
theorem rd_callN {K : PySem.W.Frag} {cl : Str → Value} {E : XK} {g : Dn.FF} {t : TA} {n : Nat} {fs : Dn.AF} (h : RdA K cl E t fs) (hn : ∀ ρ ds, fs ρ = some (.ok ds) → ds.length = n) : Rd K cl E (tCall (spF K cl n g) [] E0 t) (Dn.eCall (noX g) fs) := fun B F0 F H σ ρ R r e Q ok ex => by
  rcases bnd_cases e with ⟨a, e1, e2⟩ | ⟨c, e1, rfl⟩
  · refine h B F0 F H σ ρ R _ e1 _ (fun d ed vs F1 H1 x1 w1 => ?_) (fun c ec => by cases ec)
    cases ed
    obtain ⟨e3, d0, hd0⟩ := noX_ok e2
    refine ⟨F1, a, r, ?_, x1.s, by rw [List.append_nil]; exact w1, e3, fun d ed v F' H' x q => ok d ed v F' H' (x1.trans x) q, fun c ec => ?_⟩
    · rw [List.append_nil, DpAll_len w1]
      exact hn ρ a e1
    · rw [hd0] at ec; cases ec
  · exact h B F0 F H σ ρ R _ e1 _ (fun d ed => by cases ed) (fun c' ec F' H' x => by cases ec; exact ex c rfl F' H' x)
theorem passT {X : Cx} {E : XK} (tk : L2N.Takes X (fun cls d _ H => E cls d H)) : Passes (L2N.CX X.prog X.w) X E := L2N.passes_call tk fun _ _ _ _ h => h
/-! ### meanings as readings -/
section
variable {K : PySem.W.Frag} {cl : Str → Value}
def tSem (K : PySem.W.Frag) (cl : Str → Value) (E : XK) (b : Dn.SF) : TS := fun D σ H => ∃ B F0 F ρ r, Rp K B F0 F H σ ρ ∧ b ρ = some r ∧ Post K cl E B F0 D r
theorem rds_sem {E : XK} {b : Dn.SF} : RdS K cl E (tSem K cl E b) b := fun B F0 F H σ ρ R r e D p => ⟨B, F0, F, ρ, r, R, e, p⟩
theorem pss_sem {X : Cx} {E : XK} {st : List Stmt} {t : TS} {b : Dn.SF} (h : PSs X st t) (r : RdS K cl E t b) : PSs X st (tSem K cl E b) :=
  ⟨fun pins s σ H D I ⟨B, F0, F, ρ, o, R, e, p⟩ => h.run pins s σ H D I (r B F0 F H σ ρ R o e D p)⟩
theorem noOwn_at {ρ : Dn.Env} (h : Dn.noOwn ρ = true) {i : Nat} {s : Dn.Sl} (e : ρ[i]? = some (some s)) : ∃ d, s = .dat d := by
  unfold Dn.noOwn at h
  have := List.all_eq_true.mp h _ (List.mem_of_getElem? e)
  cases s with
  | dat d => exact ⟨d, rfl⟩
  | own _ => cases this
  | ownT _ => cases this
  | frzT _ => cases this
theorem rp_base {B F0 F H : Hp} {σ : L2.St} {ρ : Dn.Env} (R : Rp K B F0 F H σ ρ) (n : Dn.noOwn ρ = true) {B' F0' : Hp} (h1 : Same B' H) (h2 : Same F0' F) (h3 : ∀ b o, F b = some o → F0' b = some o ∨ B' b = none ∨ ∃ xs, o = .tup xs) : Rp K B' F0' F H σ ρ where
  bh := h1
  ff := h2
  fh := R.fh
  nb := h3
  len := R.len
  dat := R.dat
  own := fun i ds e => by
    obtain ⟨d, hd⟩ := noOwn_at n e
    cases hd
  ownT := fun i ds e => by
    obtain ⟨d, hd⟩ := noOwn_at n e
    cases hd
  frzT := fun i ds e => by
    obtain ⟨d, hd⟩ := noOwn_at n e
    cases hd
  dist := fun i j a s s' e _ q => by
    obtain ⟨d, hd⟩ := noOwn_at n e
    exact absurd hd (q d)
end
/-! ### try -/
/-- the suite: slot i holds the exception; x is given back -/
def tSuite (K : PySem.W.Frag) (i : Nat) (v : PyData) (a : Addr) : TS := fun D σ H => σ[i]? = some (some (.ref a)) ∧ H a = none ∧ ∀ (x : V) (H' : Hp), Same H H' → (∀ F, Dp K F x v) → D.rt x H'
theorem nb_back {B F0 F : Hp} {H F' : Hp} (bh : Same B H) (nb : ∀ b o, F b = some o → F0 b = some o ∨ B b = none ∨ ∃ xs, o = .tup xs) (nb' : ∀ b o, F' b = some o → F b = some o ∨ H b = none ∨ ∃ xs, o = .tup xs) : ∀ b o, F' b = some o → F0 b = some o ∨ B b = none ∨ ∃ xs, o = .tup xs := fun b o e => by
  rcases nb' b o e with q | q | q
  · exact nb b o q
  · right; left
    cases e2 : B b with
    | none => rfl
    | some o2 =>
      have := bh b o2 e2
      rw [q] at this
      cases this
  · exact .inr (.inr q)
theorem ps_tryC {X : Cx} {cl : Str → Value} {E' : XK} {x n c : Str} {C : Addr} {i : Nat} {body suite : List Stmt} {b₀ : Stmt} {np pos pos' : Pos} {b : Dn.SF} {v : PyData} (hs : X.stack = X.env :: X.outer) (hf : X.env.frame = some X.env.locals) (hN : X.N.Nodup) (hi : X.N[i]? = some n) (hln : X.env.kindOf n = some .local)
    (hc : Names X x (.ref C)) (hcl : cl c = .ref C) (hex : PySem.W.exmOne X.K (.ref C) (.ref C) = some true)
    (hb : ∀ (E : XK) (pn : List (Addr × Obj)) (xe : Value → Shared → Prop), Passes (L2N.CX X.prog X.w) (X.tr pn xe) E → ∃ t, PSs (X.tr pn xe) body t ∧ RdS X.K cl E t b)
    (hsu : ∀ (a : Addr) (oe : Obj) (pn : List (Addr × Obj)), L2N.Zn (.ref C) none oe → (∃ vs, oe.data = .fields vs) → PSs (X.suite a ((a, oe) :: pn)) (b₀ :: suite) (tSuite X.K i v a)) :
    PS X (.Try body [.ExceptHandler (some (.Name x np)) (some n) (b₀ :: suite) pos'] [] [] pos) (tSem X.K cl E' (Dn.sTry b c v)) := by
  have h0 := L2N.ps_try_as (X := X) (x := x) (n := n) (c := .ref C) (i := i) (body := body) (suite := suite) (b₀ := b₀) (np := np) (pos := pos) (pos' := pos')
    (tb := fun W => tSem X.K cl (fun cls d H => ∀ σ : L2.St, σ.length = X.N.length → W cls d σ H) b) (ts := fun a cls d => fun D σ H => cls = .ref C ∧ d = none ∧ tSuite X.K i v a D σ H) (Wout := fun _ _ _ _ => False) hs hf hN hi hln hc takesN
    (fun W pn xe tk po => by
      obtain ⟨t, h1, h2⟩ := hb (fun cls d H => ∀ σ : L2.St, σ.length = X.N.length → W cls d σ H) pn xe (fun pins σ H s e s' I cc => tk e s' (L2N.XE.of_call I (fun cls d H' h => h σ I.len) cc))
      exact pss_sem h1 h2)
    (fun a oe cls d pn hz hfl => ⟨fun pins s σ H D I h => by
      obtain ⟨h1, h2, h3⟩ := h
      subst h1 h2
      exact (hsu a oe pn hz hfl).run pins s σ H D I h3⟩)
  refine ⟨fun pins s σ H D I h => h0.run pins s σ H D I ?_⟩
  obtain ⟨B, F0, F, ρ, r, R, hr, po⟩ := h
  have hlen := I.len
  unfold Dn.sTry at hr
  split at hr
  · rename_i hno
    have R2 : Rp X.K H F F H σ ρ := rp_base R hno (Same.refl _) (Same.refl _) fun b o e => .inl e
    split at hr
    · rename_i c' hb'
      split at hr
      · rename_i hcc
        subst hcc
        cases hr
        refine ⟨H, F, F, ρ, _, R2, hb', fun H' s1 σ' hl' => ?_⟩
        refine ⟨true, by rw [hcl]; exact hex, fun _ a ha => ⟨hcl, rfl, ?_, ha, fun y H'' s2 hy => ?_⟩, fun q => Bool.noConfusion q⟩
        · have hi' : i < σ'.length := by
            rw [hl']
            exact (List.getElem?_eq_some_iff.mp hi).1
          rw [List.getElem?_set_self hi']
        · exact po y F H'' ((R.bh.trans s1).trans s2) R.ff ((R.fh.trans s1).trans s2) R.nb (hy F)
      · cases hr
    · rename_i d hb'
      cases hr
      exact ⟨H, F, F, ρ, _, R2, hb', fun y F' H' s1 s2 s3 nb q => po y F' H' (R.bh.trans s1) (R.ff.trans s2) s3 (nb_back R.bh R.nb nb) q⟩
    · rename_i ρ' hb'
      split at hr
      · rename_i hno'
        cases hr
        exact ⟨H, F, F, ρ, _, R2, hb', fun F' H' σ' R' => po F' H' σ' (rp_base R' hno' (R.bh.trans R'.bh) (R.ff.trans R'.ff) (nb_back R.bh R.nb R'.nb))⟩
      · cases hr
    · cases hr
  · cases hr
end Dw

set_option maxHeartbeats 4400000
/-! Dw11: what the laws' except suites say. -/
namespace Dw
open PySem PySem.Spec PyProof.Rows L2
def rS1 : R2 := fun x y H Q => ∃ z, x = V.str z ∧ y = V.int 1 ∧ Q (V.str z) H
theorem op_S1 {X : Cx} : OpR X (binaryOp .Mult) rS1 := by
  intro pins s σ H x y v u Q I rx ry h
  obtain ⟨z, rfl, rfl, q⟩ := h
  obtain ⟨t, rfl⟩ := rx
  obtain ⟨t2, rfl⟩ := ry
  refine P.mul_str (by decide) (fun _ h => absurd h (by simp)) (fun _ h => absurd h (by simp)) ?_
  rw [if_neg (by decide), if_pos (by simp)]
  exact ⟨.str z, H, I.tok _, ⟨t, rfl⟩, q⟩
def tIs (K : PySem.W.Frag) (C a : Addr) (i : Nat) (c : V) : TE := tCB (rIsE K C a) (tCons (tVar i) (tCons (tC c) tNil))
theorem is_go {K : PySem.W.Frag} {C a : Addr} {i : Nat} {c : V} {cv : Value} {b : Bool} {σ : L2.St} {H : Hp} {Q : VK} (hσ : σ[i]? = some (some (.ref a))) (hc : ∀ u, RelV c u → u = cv) (hk : PySem.W.kitOne K (.ref C) cv = some b) (q : Q (.bl b) H) : tIs K C a i c σ H Q :=
  ⟨_, hσ, c, cv, b, rfl, hc, hk, q⟩
/-- what the top says of the class that is caught, beside the others -/
structure XS (K : PySem.W.Frag) (C A1 A2 A3 A4 S : Addr) : Prop where
  k1 : PySem.W.kitOne K (.ref C) (.ref A1) = some false
  k2 : PySem.W.kitOne K (.ref C) (.ref A2) = some false
  k3 : PySem.W.kitOne K (.ref C) (.ref A3) = some false
  k4 : PySem.W.kitOne K (.ref C) (.ref A4) = some false
  kS : PySem.W.kitOne K (.ref C) (.ref S) = some true
  kV : PySem.W.kitOne K (.ref C) (.type "ValueError") = some true
def tSome (K : PySem.W.Frag) (C a A1 A2 A3 A4 : Addr) (i j : Nat) : TS := tAsg (tLst (tCons (tIs K C a i (.ref A1)) (tCons (tIs K C a i (.ref A2)) (tCons (tIs K C a i (.ref A3)) (tCons (tIs K C a i (.ref A4)) tNil))))) (gName j)
def tSay (K : PySem.W.Frag) (C a S : Addr) (i j : Nat) : TE := tAndV (tIs K C a i (.ref S)) (tAndV (tIs K C a i (.ty "ValueError")) (tNotV (tCB (rAny K) (tCons (tVar j) tNil))))
theorem some_go {K : PySem.W.Frag} {C a A1 A2 A3 A4 S : Addr} {i j : Nat} (T : XS K C A1 A2 A3 A4 S) (hij : i ≠ j) {σ : L2.St} {H : Hp} {D : Ends} (hj : j < σ.length) (hσ : σ[i]? = some (some (.ref a)))
    (h : ∀ p, H p = none → D.nx (σ.set j (some (.ref p))) (upd H p (.lst ([false, false, false, false].map V.bl)))) : tSome K C a A1 A2 A3 A4 i j D σ H := by
  refine is_go hσ (fun u r => r) T.k1 (is_go hσ (fun u r => r) T.k2 (is_go hσ (fun u r => r) T.k3 (is_go hσ (fun u r => r) T.k4 ?_)))
  exact ⟨by show 4 ≤ sizeLine; decide, fun p hp => h p hp⟩
theorem say_go {K : PySem.W.Frag} {C a A1 A2 A3 A4 S : Addr} {i j : Nat} (T : XS K C A1 A2 A3 A4 S) (hij : i ≠ j) {σ : L2.St} {H : Hp} {Q : VK} {p : Addr} (hj : j < σ.length) (hσ : σ[i]? = some (some (.ref a)))
    (h : Q (.bl true) (upd H p (.lst ([false, false, false, false].map V.bl)))) : tSay K C a S i j (σ.set j (some (.ref p))) (upd H p (.lst ([false, false, false, false].map V.bl))) Q := by
  have h1 : (σ.set j (some (V.ref p)))[i]? = some (some (.ref a)) := by
    rw [List.getElem?_set_ne (Ne.symm hij)]
    exact hσ
  have h2 : (σ.set j (some (V.ref p)))[j]? = some (some (.ref p)) := List.getElem?_set_self hj
  refine is_go h1 (fun u r => r) T.kS ⟨true, rfl, ?_⟩
  rw [if_pos rfl]
  refine is_go h1 (fun u r => r) T.kV ⟨true, rfl, ?_⟩
  rw [if_pos rfl]
  exact ⟨_, h2, p, [false, false, false, false], rfl, SqL.of upd_same, false, rfl, h⟩
/-- .. and gives True -/
theorem pss_suiteB {X : Cx} {a : Addr} {oe : Obj} {pn : List (Addr × Obj)} {C A1 A2 A3 A4 S : Addr} {i j : Nat} {st : List Stmt} (T : XS X.K C A1 A2 A3 A4 S) (hij : i ≠ j) (hj : j < X.N.length)
    (h : PSs (X.suite a ((a, oe) :: pn)) st (tSeq (tSome X.K C a A1 A2 A3 A4 i j) (tRet (tSay X.K C a S i j)))) : PSs (X.suite a ((a, oe) :: pn)) st (tSuite X.K i (.bool true) a) :=
  ⟨fun pins s σ H D I ⟨h1, h2, h3⟩ => h.run pins s σ H D I (by
    have hl : j < σ.length := by rw [I.len]; exact hj
    refine some_go (S := S) T hij hl h1 fun p hp => say_go T hij hl h1 (h3 _ _ (same_upd hp) fun F => .bl true))⟩
theorem pss_suiteN {X : Cx} {a : Addr} {oe : Obj} {pn : List (Addr × Obj)} {C A1 A2 A3 A4 S : Addr} {i j : Nat} {st : List Stmt} {z : Str} (T : XS X.K C A1 A2 A3 A4 S) (hij : i ≠ j) (hj : j < X.N.length)
    (h : PSs (X.suite a ((a, oe) :: pn)) st (tSeq (tSome X.K C a A1 A2 A3 A4 i j) (tRet (tOp rS1 (tC (.str z)) (tCB (rDC1 X.K Dn.intD) (tCons (tSay X.K C a S i j) tNil)))))) : PSs (X.suite a ((a, oe) :: pn)) st (tSuite X.K i (.str z) a) :=
  ⟨fun pins s σ H D I ⟨h1, h2, h3⟩ => h.run pins s σ H D I (by
    have hl : j < σ.length := by rw [I.len]; exact hj
    refine some_go (S := S) T hij hl h1 fun p hp => say_go T hij hl h1 ?_
    refine ⟨_, rfl, fun _ => none, .bool true, .int 1, (fun _ _ e => by cases e), Or.inl (.bl true), rfl, fun v F' H' x q => ?_⟩
    cases q
    exact ⟨z, rfl, rfl, h3 _ _ ((same_upd hp).trans x.h) fun F => .str z⟩)⟩
theorem hot_of {X : Cx} {a : Addr} {oe : Obj} {pn : List (Addr × Obj)} {cls : Value} {d : Option Addr} (hz : L2N.Zn cls d oe) (hf : ∃ vs, oe.data = .fields vs) : L2H.HotC (X.suite a ((a, oe) :: pn)) := by
  obtain ⟨vs, hd⟩ := hf
  exact ⟨(a, oe), ⟨rfl, vs, hd, hz.2.2 vs hd⟩, List.mem_cons_self⟩
theorem rds_ex {K : PySem.W.Frag} {cl : Str → Value} {E : XK} {t : TE} {f : Dn.EF} (h : Rd K cl E t f) : RdS K cl E (tDrop t) (Dn.sEx f) := fun B F0 F H σ ρ R r e D p => by
  rcases bS_cases e with ⟨a, e1, e2⟩ | ⟨c, e1, rfl⟩
  · refine h B F0 F H σ ρ R _ e1 _ (fun d ed v F1 H1 x1 w => ?_) (fun c ec => by cases ec)
    cases ed
    cases e2
    exact p F1 H1 σ (R.ext x1)
  · exact h B F0 F H σ ρ R _ e1 _ (fun d ed => by cases ed) (fun c' ec F' H' x => by cases ec; exact p H' (R.bh.trans x.h))
section
variable {K : PySem.W.Frag} {C A : Addr}
theorem kit_no (ne : (Value.ref C == Value.ref A) = false) (h1 : PySem.W.isClsIn K A = true) (h2 : PySem.W.typeIn K (.ref A) = some (.type "type")) (h3 : PySem.W.subIn K (.ref C) (.ref A) = some false) : PySem.W.kitOne K (.ref C) (.ref A) = some false := by
  have h1' : (PySem.W.clsIn K A).isSome = true := h1
  have e2 : ((PySem.W.clsIn K A).isSome && PySem.W.typeIn K (.ref A) == some (.type "type")) = true := by rw [h1', h2] <;> rfl
  show (if (Value.ref C == Value.ref A) = true then some true else if ((PySem.W.clsIn K A).isSome && PySem.W.typeIn K (.ref A) == some (.type "type")) = true then PySem.W.subIn K (.ref C) (.ref A) else none) = _
  rw [ne, if_neg Bool.false_ne_true, if_pos e2]
  exact h3
theorem kit_yes (h1 : PySem.W.isClsIn K A = true) (h2 : PySem.W.typeIn K (.ref A) = some (.type "type")) (h3 : PySem.W.subIn K (.ref C) (.ref A) = some true) : PySem.W.kitOne K (.ref C) (.ref A) = some true := by
  have h1' : (PySem.W.clsIn K A).isSome = true := h1
  have e2 : ((PySem.W.clsIn K A).isSome && PySem.W.typeIn K (.ref A) == some (.type "type")) = true := by rw [h1', h2] <;> rfl
  show (if (Value.ref C == Value.ref A) = true then some true else if ((PySem.W.clsIn K A).isSome && PySem.W.typeIn K (.ref A) == some (.type "type")) = true then PySem.W.subIn K (.ref C) (.ref A) else none) = _
  split
  · rfl
  · first
    | exact h3
    | (rw [if_pos e2]; exact h3)
theorem kit_val (h : PySem.W.subIn K (.ref C) (.type "ValueError") = some true) : PySem.W.kitOne K (.ref C) (.type "ValueError") = some true := by
  show (if (Value.ref C == Value.type "ValueError") = true then some true else if PySem.W.kitMeta "ValueError" = true then PySem.W.subIn K (.ref C) (.type "ValueError") else none) = _
  rw [show (Value.ref C == Value.type "ValueError") = false from rfl, if_neg Bool.false_ne_true, if_pos (by decide +kernel)]
  exact h
theorem exm_own (h1 : PySem.W.subIn K (.ref C) (.type "BaseException") = some true) (h2 : PySem.W.isClsIn K C = true) (h3 : PySem.W.typeIn K (.ref C) = some (.type "type")) (h4 : PySem.W.subIn K (.ref C) (.ref C) = some true) : PySem.W.exmOne K (.ref C) (.ref C) = some true := by
  have h2' : (PySem.W.clsIn K C).isSome = true := h2
  have e2 : ((PySem.W.clsIn K C).isSome && PySem.W.typeIn K (.ref C) == some (.type "type")) = true := by rw [h2', h3] <;> rfl
  show (if (PySem.W.subIn K (.ref C) (.type "BaseException") == some true) = true then (if ((PySem.W.clsIn K C).isSome && PySem.W.typeIn K (.ref C) == some (.type "type")) = true then PySem.W.subIn K (.ref C) (.ref C) else none) else none) = some true
  rw [h1, if_pos (by decide), if_pos e2]
  exact h4
end
end Dw

set_option maxHeartbeats 4400000
/-! Dw18: list + list, join, except clauses over a base class, without a name. -/
namespace Dw
open PySem PySem.Spec PyProof.Rows L2
section
variable {K : PySem.W.Frag} {cl : Str → Value} {E : XK}
theorem rdn_cat {ta tb : TE} {fa fb : Dn.EF} (ha : RdW K cl E ta fa) (hb : RdW K cl E tb fb) : RdN K cl E (tOp (rCatS K) ta tb) (Dn.e2 Dn.catD fa fb) := fun B F0 F H σ ρ R r e Q ok ex => by
  rcases bnd_cases e with ⟨a, e1, e2⟩ | ⟨c, e1, rfl⟩
  · refine ha B F0 F H σ ρ R _ e1 _ (fun d ed v F1 H1 x1 w1 => ?_) (fun c ec => by cases ec)
    cases ed
    rcases bnd_cases e2 with ⟨b, e3, e4⟩ | ⟨c, e3, rfl⟩
    · refine hb B F0 F1 H1 σ ρ (R.ext x1) _ e3 _ (fun d2 ed2 v2 F2 H2 x2 w2 => ?_) (fun c ec => by cases ec)
      cases ed2
      obtain ⟨z, ez, rfl⟩ := lft_cases e4
      unfold Dn.catD at ez
      split at ez
      · rename_i xs ys
        split at ez
        · rename_i hc
          cases ez
          obtain ⟨p, vs, rfl, s1, q1⟩ := (w1.mono x2).list x2.s
          obtain ⟨p2, vs2, rfl, s2, q2⟩ := w2.list x2.s
          have l1 := DpAll_len q1
          have l2 := DpAll_len q2
          refine ⟨p, p2, vs, vs2, rfl, rfl, s1, s2, Nat.le_of_lt (lineM (by omega)), fun t ht => ?_⟩
          exact ok _ rfl t _ _ F2 _ ((x1.trans x2).trans (Ext.freshO x2.s _ ht)) rfl ((x1.trans x2).h.free ht) (x2.s.free ht) upd_same (DpAll_app q1 q2)
        · cases ez
      · cases ez
    · exact hb B F0 F1 H1 σ ρ (R.ext x1) _ e3 _ (fun d2 ed2 => by cases ed2) (fun c' ec F' H' x => by cases ec; exact ex c rfl F' H' (x1.trans x))
  · exact ha B F0 F H σ ρ R _ e1 _ (fun d ed => by cases ed) (fun c' ec F' H' x => by cases ec; exact ex c rfl F' H' x)
theorem DpAll_strs {F : Hp} : ∀ {vs : List V} {ds : List PyData} {ns : List Str}, DpAll K F vs ds → Dn.strsOf ds = some ns → vs = ns.map V.str
  | _, _, _, .nil, e => by
    have e' := Option.some.inj e
    subst e'
    rfl
  | _, _, ns, .cons h a, e => by
    cases h with
    | str i =>
      unfold Dn.strsOf at e
      obtain ⟨ms, hm, e'⟩ := Option.map_eq_some_iff.mp e
      subst e'
      rw [DpAll_strs a hm]
      rfl
    | non => cases e
    | int b => cases e
    | bl x => cases e
    | lst _ _ => cases e
    | tup _ _ => cases e
def rJoin (K : PySem.W.Frag) : V → List V → Hp → VK → Prop := fun x xs H Q => ∃ a p, ∃ ys : List Str, x = .str a ∧ xs = [.ref p] ∧ (SqL K H p (ys.map V.str) ∨ L2.SqT K H p (ys.map V.str)) ∧
    (ys.map (·.length)).sum + ys.length * a.length ≤ 16777216 ∧ Q (.str (Txt.join a ys)) H
theorem rd_join {ta tb : TE} {fa fb : Dn.EF} (ha : RdW K cl E ta fa) (hb : RdW K cl E tb fb) : Rd K cl E (tM1 (rJoin K) ta tb) (Dn.eJoin2 fa fb) := fun B F0 F H σ ρ R r e Q ok ex => by
  rcases bnd_cases e with ⟨a, e1, e2⟩ | ⟨c, e1, rfl⟩
  · refine ha B F0 F H σ ρ R _ e1 _ (fun d ed v F1 H1 x1 w1 => ?_) (fun c ec => by cases ec)
    cases ed
    split at e2
    · rename_i z
      have hv := w1.str
      subst hv
      refine ⟨⟨z, rfl⟩, ?_⟩
      rcases bnd_cases e2 with ⟨b, e3, e4⟩ | ⟨c, e3, rfl⟩
      · refine hb B F0 F1 H1 σ ρ (R.ext x1) _ e3 _ (fun d2 ed2 v2 F2 H2 x2 w2 => ?_) (fun c ec => by cases ec)
        cases ed2
        obtain ⟨y, ez, rfl⟩ := lft_cases e4
        obtain ⟨xs, h1, h2⟩ := Option.bind_eq_some_iff.mp ez
        obtain ⟨ys, h3, h4⟩ := Option.bind_eq_some_iff.mp h2
        split at h4
        · rename_i hc
          cases h4
          cases b with
          | list bs =>
            cases h1
            obtain ⟨p, vs, rfl, s1, q1⟩ := w2.list x2.s
            have := DpAll_strs q1 h3
            subst this
            exact ⟨z, p, ys, rfl, rfl, .inl s1, Nat.le_trans hc (by decide), ok _ rfl _ F2 H2 (x1.trans x2) (.str _)⟩
          | none => cases h1
          | bool _ => cases h1
          | int _ => cases h1
          | str _ => cases h1
          | tuple _ => cases h1
          | dict _ => cases h1
        · cases h4
      · exact hb B F0 F1 H1 σ ρ (R.ext x1) _ e3 _ (fun d2 ed2 => by cases ed2) (fun c' ec F' H' x => by cases ec; exact ex c rfl F' H' (x1.trans x))
    · cases e2
  · exact ha B F0 F H σ ρ R _ e1 _ (fun d ed => by cases ed) (fun c' ec F' H' x => by cases ec; exact ex c rfl F' H' x)
end
section
variable {K : PySem.W.Frag} {C A : Addr}
theorem exm_sub (h1 : PySem.W.subIn K (.ref A) (.type "BaseException") = some true) (h2 : PySem.W.isClsIn K A = true) (h3 : PySem.W.typeIn K (.ref A) = some (.type "type")) (h4 : PySem.W.subIn K (.ref C) (.ref A) = some true) : PySem.W.exmOne K (.ref C) (.ref A) = some true := by
  unfold PySem.W.exmOne
  rw [h1, if_pos (by decide)]
  have h2' : (PySem.W.clsIn K A).isSome = true := h2
  have e2 : ((PySem.W.clsIn K A).isSome && PySem.W.typeIn K (.ref A) == some (.type "type")) = true := by rw [h2', h3] <;> rfl
  first
  | (show (if ((PySem.W.clsIn K A).isSome && PySem.W.typeIn K (.ref A) == some (.type "type")) = true then PySem.W.subIn K (.ref C) (.ref A) else none) = some true
     rw [if_pos e2]
     exact h4)
  | (unfold PySem.W.kitCls
     rw [if_pos e2]
     exact h4)
end
/-! ### try: a handler of a base class -/
theorem ps_tryG {X : Cx} {cl : Str → Value} {E' : XK} {x n c : Str} {C HC : Addr} {i : Nat} {body suite : List Stmt} {b₀ : Stmt} {np pos pos' : Pos} {b : Dn.SF} {v : PyData} (hs : X.stack = X.env :: X.outer) (hf : X.env.frame = some X.env.locals) (hN : X.N.Nodup) (hi : X.N[i]? = some n) (hln : X.env.kindOf n = some .local)
    (hc : Names X x (.ref HC)) (hcl : cl c = .ref C) (hex : PySem.W.exmOne X.K (.ref C) (.ref HC) = some true)
    (hb : ∀ (E : XK) (pn : List (Addr × Obj)) (xe : Value → Shared → Prop), Passes (L2N.CX X.prog X.w) (X.tr pn xe) E → ∃ t, PSs (X.tr pn xe) body t ∧ RdS X.K cl E t b)
    (hsu : ∀ (a : Addr) (oe : Obj) (pn : List (Addr × Obj)), L2N.Zn (.ref C) none oe → (∃ vs, oe.data = .fields vs) → PSs (X.suite a ((a, oe) :: pn)) (b₀ :: suite) (tSuite X.K i v a)) :
    PS X (.Try body [.ExceptHandler (some (.Name x np)) (some n) (b₀ :: suite) pos'] [] [] pos) (tSem X.K cl E' (Dn.sTry b c v)) := by
  have h0 := L2N.ps_try_as (X := X) (x := x) (n := n) (c := .ref HC) (i := i) (body := body) (suite := suite) (b₀ := b₀) (np := np) (pos := pos) (pos' := pos')
    (tb := fun W => tSem X.K cl (fun cls d H => ∀ σ : L2.St, σ.length = X.N.length → W cls d σ H) b) (ts := fun a cls d => fun D σ H => cls = .ref C ∧ d = none ∧ tSuite X.K i v a D σ H) (Wout := fun _ _ _ _ => False) hs hf hN hi hln hc takesN
    (fun W pn xe tk po => by
      obtain ⟨t, h1, h2⟩ := hb (fun cls d H => ∀ σ : L2.St, σ.length = X.N.length → W cls d σ H) pn xe (fun pins σ H s e s' I cc => tk e s' (L2N.XE.of_call I (fun cls d H' h => h σ I.len) cc))
      exact pss_sem h1 h2)
    (fun a oe cls d pn hz hfl => ⟨fun pins s σ H D I h => by
      obtain ⟨h1, h2, h3⟩ := h
      subst h1 h2
      exact (hsu a oe pn hz hfl).run pins s σ H D I h3⟩)
  refine ⟨fun pins s σ H D I h => h0.run pins s σ H D I ?_⟩
  obtain ⟨B, F0, F, ρ, r, R, hr, po⟩ := h
  have hlen := I.len
  unfold Dn.sTry at hr
  split at hr
  · rename_i hno
    have R2 : Rp X.K H F F H σ ρ := rp_base R hno (Same.refl _) (Same.refl _) fun b o e => .inl e
    split at hr
    · rename_i c' hb'
      split at hr
      · rename_i hcc
        subst hcc
        cases hr
        refine ⟨H, F, F, ρ, _, R2, hb', fun H' s1 σ' hl' => ?_⟩
        refine ⟨true, by rw [hcl]; exact hex, fun _ a ha => ⟨hcl, rfl, ?_, ha, fun y H'' s2 hy => ?_⟩, fun q => Bool.noConfusion q⟩
        · have hi' : i < σ'.length := by
            rw [hl']
            exact (List.getElem?_eq_some_iff.mp hi).1
          rw [List.getElem?_set_self hi']
        · exact po y F H'' ((R.bh.trans s1).trans s2) R.ff ((R.fh.trans s1).trans s2) R.nb (hy F)
      · cases hr
    · rename_i d hb'
      cases hr
      exact ⟨H, F, F, ρ, _, R2, hb', fun y F' H' s1 s2 s3 nb q => po y F' H' (R.bh.trans s1) (R.ff.trans s2) s3 (nb_back R.bh R.nb nb) q⟩
    · rename_i ρ' hb'
      split at hr
      · rename_i hno'
        cases hr
        exact ⟨H, F, F, ρ, _, R2, hb', fun F' H' σ' R' => po F' H' σ' (rp_base R' hno' (R.bh.trans R'.bh) (R.ff.trans R'.ff) (nb_back R.bh R.nb R'.nb))⟩
      · cases hr
    · cases hr
  · cases hr
/-- the suite of a clause without a name -/
def tSuiteU (K : PySem.W.Frag) (v : PyData) : TS := fun D σ H => ∀ (x : V) (H' : Hp), Same H H' → (∀ F, Dp K F x v) → D.rt x H'
theorem pss_suiteU {X : Cx} {st : List Stmt} {i : Bool} (h : PSs X st (tRet (tC (.bl i)))) : PSs X st (tSuiteU X.K (.bool i)) :=
  ⟨fun pins s σ H D I q => h.run pins s σ H D I (q _ _ (Same.refl _) fun F => .bl i)⟩
theorem ps_tryU {X : Cx} {cl : Str → Value} {E' : XK} {x c : Str} {C HC : Addr} {body suite : List Stmt} {b₀ : Stmt} {np pos pos' : Pos} {b : Dn.SF} {v : PyData} (hs : X.stack = X.env :: X.outer) (hf : X.env.frame = some X.env.locals)
    (hc : Names X x (.ref HC)) (hcl : cl c = .ref C) (hex : PySem.W.exmOne X.K (.ref C) (.ref HC) = some true)
    (hb : ∀ (E : XK) (pn : List (Addr × Obj)) (xe : Value → Shared → Prop), Passes (L2N.CX X.prog X.w) (X.tr pn xe) E → ∃ t, PSs (X.tr pn xe) body t ∧ RdS X.K cl E t b)
    (hsu : ∀ (a : Addr) (oe : Obj) (pn : List (Addr × Obj)), L2N.Zn (.ref C) none oe → (∃ vs, oe.data = .fields vs) → PSs (X.suite a ((a, oe) :: pn)) (b₀ :: suite) (tSuiteU X.K v)) :
    PS X (.Try body [.ExceptHandler (some (.Name x np)) none (b₀ :: suite) pos'] [] [] pos) (tSem X.K cl E' (Dn.sTry b c v)) := by
  have h0 := L2N.ps_try_many (X := X) (body := body) (pos := pos)
    (tb := fun W => tSem X.K cl (fun cls d H => ∀ σ : L2.St, σ.length = X.N.length → W cls d σ H) b) (Wout := fun _ _ _ _ => False) hs hf takesN
    (fun W pn xe tk po => by
      obtain ⟨t, h1, h2⟩ := hb (fun cls d H => ∀ σ : L2.St, σ.length = X.N.length → W cls d σ H) pn xe (fun pins σ H s e s' I cc => tk e s' (L2N.XE.of_call I (fun cls d H' h => h σ I.len) cc))
      exact pss_sem h1 h2)
    (L2N.HdsOk.cons (x := x) (np := np) (pos' := pos') (b₀ := b₀) (suite := suite) (ts := fun a cls d => fun D σ H => cls = .ref C ∧ d = none ∧ tSuiteU X.K v D σ H) hc
      (fun a oe cls d pn hz hfl => ⟨fun pins s σ H D I h => by
        obtain ⟨h1, h2, h3⟩ := h
        subst h1 h2
        exact (hsu a oe pn hz hfl).run pins s σ H D I h3⟩) .nil)
  refine ⟨fun pins s σ H D I h => h0.run pins s σ H D I ?_⟩
  obtain ⟨B, F0, F, ρ, r, R, hr, po⟩ := h
  have hlen := I.len
  unfold Dn.sTry at hr
  split at hr
  · rename_i hno
    have R2 : Rp X.K H F F H σ ρ := rp_base R hno (Same.refl _) (Same.refl _) fun b o e => .inl e
    split at hr
    · rename_i c' hb'
      split at hr
      · rename_i hcc
        subst hcc
        cases hr
        refine ⟨H, F, F, ρ, _, R2, hb', fun H' s1 σ' hl' => ?_⟩
        refine ⟨true, by rw [hcl]; exact hex, fun _ a ha => ⟨hcl, rfl, fun y H'' s2 hy => ?_⟩, fun q => Bool.noConfusion q⟩
        exact po y F H'' ((R.bh.trans s1).trans s2) R.ff ((R.fh.trans s1).trans s2) R.nb (hy F)
      · cases hr
    · rename_i d hb'
      cases hr
      exact ⟨H, F, F, ρ, _, R2, hb', fun y F' H' s1 s2 s3 nb q => po y F' H' (R.bh.trans s1) (R.ff.trans s2) s3 (nb_back R.bh R.nb nb) q⟩
    · rename_i ρ' hb'
      split at hr
      · rename_i hno'
        cases hr
        exact ⟨H, F, F, ρ, _, R2, hb', fun F' H' σ' R' => po F' H' σ' (rp_base R' hno' (R.bh.trans R'.bh) (R.ff.trans R'.ff) (nb_back R.bh R.nb R'.nb))⟩
      · cases hr
    · cases hr
  · cases hr
end Dw

set_option maxHeartbeats 4400000
/-! Dw22: the slots of sets of up to 300 tuples, all unlike: tables of up to 512 slots. -/
namespace Dw
open PySem PySem.Spec PyProof.Rows L2
def Mk (m : Nat) : Prop := MaskOk m ∨ m = 511
def inv511 : List Nat :=
  [0, 1, 326, 495, 412, 365, 2, 379, 376, 281, 254, 327, 404, 261, 58, 339, 496, 305, 438, 415, 140, 413, 370, 43, 360, 73, 366, 247, 132, 309, 426, 3, 
   480, 97, 38, 335, 380, 461, 226, 219, 344, 377, 478, 167, 372, 357, 282, 179, 464, 401, 150, 255, 108, 509, 82, 395, 328, 169, 78, 87, 100, 405, 138, 
   355, 448, 193, 262, 175, 348, 45, 450, 59, 312, 473, 190, 7, 340, 453, 506, 19, 432, 497, 374, 95, 76, 93, 306, 235, 296, 265, 302, 439, 68, 501, 362, 
   195, 416, 289, 486, 15, 316, 141, 162, 411, 280, 57, 414, 359, 308, 37, 218, 371, 400, 81, 86, 447, 44, 189, 18, 75, 264, 361, 14, 279, 36, 85, 74, 
   35, 384, 385, 198, 367, 284, 237, 386, 251, 248, 153, 126, 199, 276, 133, 442, 211, 368, 177, 310, 287, 12, 285, 242, 427, 232, 457, 238, 119, 4, 181, 
   298, 387, 352, 481, 422, 207, 252, 333, 98, 91, 216, 249, 350, 39, 244, 229, 154, 51, 336, 273, 22, 127, 492, 381, 466, 267, 200, 41, 462, 471, 484, 
   277, 10, 227, 320, 65, 134, 47, 220, 429, 322, 443, 184, 345, 62, 391, 212, 325, 378, 403, 304, 369, 246, 479, 460, 477, 178, 107, 168, 137, 174, 311, 
   452, 373, 234, 67, 288, 161, 358, 399, 188, 13, 34, 283, 152, 441, 286, 231, 180, 421, 90, 243, 272, 465, 470, 319, 428, 61, 402, 459, 136, 233, 398, 
   151, 420, 469, 458, 419, 256, 257, 70, 239, 156, 109, 258, 123, 120, 25, 510, 71, 148, 5, 314, 83, 240, 49, 182, 159, 396, 157, 114, 299, 104, 329, 
   110, 503, 388, 53, 170, 259, 224, 353, 294, 79, 124, 205, 482, 475, 88, 121, 222, 423, 116, 101, 26, 435, 208, 145, 406, 511, 364, 253, 338, 139, 72, 
   425, 334, 343, 356, 149, 394, 99, 192, 449, 6, 431, 92, 301, 194, 315, 56, 217, 446, 263, 84, 197, 250, 275, 176, 241, 118, 351, 332, 349, 50, 491, 
   40, 9, 46, 183, 324, 245, 106, 451, 160, 33, 230, 271, 60, 397, 418, 155, 24, 313, 158, 103, 52, 293, 474, 115, 144, 337, 342, 191, 300, 445, 274, 331, 
   8, 105, 270, 23, 292, 341, 330, 291, 128, 129, 454, 111, 28, 493, 130, 507, 504, 409, 382, 455, 20, 389, 186, 467, 112, 433, 54, 31, 268, 29, 498, 171, 
   488, 201, 494, 375, 260, 437, 42, 131, 96, 225, 166, 463, 508, 77, 354, 347, 472, 505, 94, 295, 500, 485, 410, 307, 80, 17, 278, 383, 236, 125, 210, 
   11, 456, 297, 206, 215, 228, 21, 266, 483, 64, 321, 390, 303, 476, 173, 66, 187, 440, 89, 318, 135, 468, 69, 122, 147, 48, 113, 502, 223, 204, 221, 
   434, 363, 424, 393, 430, 55, 196, 117, 490, 323, 32, 417, 102, 143, 444, 269, 290, 27, 408, 185, 30, 487, 436, 165, 346, 499, 16, 209, 214, 63, 172, 
   317, 146, 203, 392, 489, 142, 407, 164, 213, 202, 163]
theorem inv511_ok : ((List.range 512).all fun j => Nat.ble (inv511.getD j 0) 511 && Nat.beq (lcgN 511 (inv511.getD j 0)) j) = true := by decide +kernel
theorem turn511 : lcgN 511 512 = 0 := by decide +kernel
section
variable {m : Nat}
theorem Mk.from0 (h : Mk m) {j : Nat} (hj : j ≤ m) : ∃ b, b ≤ m ∧ lcgN m b = j := by
  rcases h with h | rfl
  · exact lcg_all h hj
  · have := List.all_eq_true.mp inv511_ok j (List.mem_range.mpr (by omega))
    rw [Bool.and_eq_true] at this
    exact ⟨_, Nat.le_of_ble_eq_true this.1, Nat.eq_of_beq_eq_true this.2⟩
theorem Mk.home (h : Mk m) : lcgN m (m + 1) = 0 := by
  rcases h with h | rfl
  · exact lcg_round h
  · exact turn511
theorem Mk.again (h : Mk m) (k : Nat) : lcgN m (m + 1 + k) = lcgN m k := by
  have e := lcgN_add m (m + 1) k
  rw [h.home] at e
  have e2 := lcgN_add m 0 k
  rw [Nat.zero_add] at e2
  exact e.symm.trans e2
theorem Mk.to (h : Mk m) {i j : Nat} (hi : i ≤ m) (hj : j ≤ m) : ∃ k, k ≤ m ∧ lcgI m i k = j := by
  obtain ⟨a, ha, rfl⟩ := h.from0 hi
  obtain ⟨b, hb, rfl⟩ := h.from0 hj
  by_cases c : a ≤ b
  · exact ⟨b - a, by omega, by rw [lcgN_add, Nat.add_sub_cancel' c]⟩
  · exact ⟨m + 1 + b - a, by omega, by rw [lcgN_add, Nat.add_sub_cancel' (by omega), h.again]⟩
theorem Mk.run (h : Mk m) (z : Int) {j : Nat} (hj : j ≤ m) : ∃ n, n ≤ m + 12 ∧ runI m (SetTable.bits z) n = j := by
  obtain ⟨k, hk, e⟩ := h.to (runI_le m _ 12) hj
  exact ⟨12 + k, Nat.add_comm 12 k ▸ Nat.add_le_add_right hk 12, (runI_tail (bits_lt z) k).trans e⟩
theorem way_in (z : Int) (k : Nat) : way m z k ≤ m := by
  have hs : SetTable.bits z % (m + 1) ≤ m := Nat.lt_succ_iff.mp (Nat.mod_lt _ m.succ_pos)
  have hr := runEnd_bd hs
  have := nth_in k (runAt m (SetTable.bits z % (m + 1)) (SetTable.bits z)) (show SetTable.bits z % (m + 1) + (SetTable.runEnd m _ - SetTable.bits z % (m + 1)) ≤ m by omega)
  exact Nat.le_trans (Nat.le_add_right _ _) this
/-- the first slot of the way that isn't taken -/
theorem Mk.out (h : Mk m) (ps : List Nat) (hl : ps.length ≤ m) (z : Int) : ∃ K, K < 10 * SetTable.turns m ∧ way m z K ∉ ps ∧ ∀ k, k < K → way m z k ∈ ps := by
  obtain ⟨j, hj, hn⟩ := st_missing ps (m + 1) (by omega)
  obtain ⟨n, hn2, e⟩ := h.run z (Nat.lt_succ_iff.mp hj)
  obtain ⟨k, hk, e2⟩ := run_nth m (SetTable.bits z) n
  have hw : way m z k ∉ ps := by
    show (nth m _ k).j ∉ ps
    rw [e2]
    show runI m _ n ∉ ps
    rw [e]
    exact hn
  obtain ⟨K, h1, h2, h3⟩ := st_least (p := fun k => way m z k ∉ ps) k hw
  refine ⟨K, ?_, h2, fun i hi => Decidable.not_not.mp (h3 i hi)⟩
  have : SetTable.turns m = m + 15 := rfl
  omega
/-- a free slot, in laying anew -/
theorem Mk.free (h : Mk m) (ow : Array (Option Nat)) (z : Int) {j : Nat} (hj : j ≤ m) (hf : oAt ow j = none) : ∃ d, d ≤ m ∧ oAt ow d = none ∧ SetTable.layClean.free m ow (SetTable.turns m) (SetTable.bits z % (m + 1)) (SetTable.bits z) = some d := by
  obtain ⟨n, hn, e⟩ := h.run z hj
  have hp : oAt ow (way m z (off m (SetTable.bits z % (m + 1)) (SetTable.bits z) n)) = none := by
    show oAt ow (nth m _ _).j = none
    rw [nth_off, itL_run]
    show oAt ow (runI m _ n) = none
    rw [e, hf]
  obtain ⟨K, h1, h2, h3⟩ := st_least (p := fun k => oAt ow (way m z k) = none) _ hp
  refine ⟨way m z K, way_in z K, h2, free_spec m ow _ n _ _ K (by show n < m + 15; omega) h1 (fun k hk => ?_) (by show Option.isNone (oAt ow (way m z K)) = true; rw [h2]; rfl)⟩
  have := h3 k hk
  show Option.isNone (oAt ow (way m z k)) = false
  revert this
  cases oAt ow (way m z k) with
  | none => exact fun f => absurd rfl f
  | some _ => exact fun _ => rfl
/-- n are laid -/
structure Lay (m n : Nat) (ow : Array (Option Nat)) : Prop where
  wide : ow.size = m + 1
  each : ∀ k, k < n → ∃ j, j ≤ m ∧ oAt ow j = some k
  used : ∃ ps : List Nat, ps.length = n ∧ ∀ j, j ≤ m → oAt ow j ≠ none → j ∈ ps
theorem Lay.zero (m : Nat) : Lay m 0 (Array.replicate (m + 1) none) := ⟨Array.size_replicate, fun k hk => absurd hk (by omega), [], rfl, fun j hj e => absurd (oAt_init hj) e⟩
theorem Lay.more (h : Mk m) {n : Nat} {ow : Array (Option Nat)} (L : Lay m n ow) (hn : n ≤ m) (z : Int) :
    ∃ d, SetTable.layClean.free m ow (SetTable.turns m) (SetTable.bits z % (m + 1)) (SetTable.bits z) = some d ∧ Lay m (n + 1) (ow.setIfInBounds d (some n)) := by
  obtain ⟨ps, hp, hu⟩ := L.used
  obtain ⟨j, hj, hnj⟩ := st_missing ps (m + 1) (by omega)
  have hj0 : oAt ow j = none := by
    by_cases c : oAt ow j = none
    · exact c
    · exact absurd (hu j (by omega) c) hnj
  obtain ⟨d, hd, h0, hf⟩ := h.free ow z (Nat.lt_succ_iff.mp hj) hj0
  have hs := oAt_set_self (some n) (show d < ow.size by rw [L.wide]; omega)
  refine ⟨d, hf, by rw [Array.size_setIfInBounds, L.wide], fun k hk => ?_, d :: ps, by rw [List.length_cons, hp], fun i hi e => ?_⟩
  · by_cases c : k = n
    · exact ⟨d, hd, by rw [hs, c]⟩
    · obtain ⟨i, hi, e⟩ := L.each k (by omega)
      exact ⟨i, hi, by rw [oAt_set_ne _ (fun q => by rw [q, h0] at e; cases e), e]⟩
  · by_cases c : i = d
    · rw [c]
      exact List.mem_cons_self
    · rw [oAt_set_ne _ c] at e
      exact List.mem_cons_of_mem _ (hu i hi e)
theorem Lay.fold (h : Mk m) : ∀ (zs : List Int) (n : Nat) (ow : Array (Option Nat)), Lay m n ow → n + zs.length ≤ m → ∃ ow', zs.foldl (stepF m) (some (ow, n)) = some (ow', n + zs.length) ∧ Lay m (n + zs.length) ow'
  | [], n, ow, L, _ => ⟨ow, rfl, L⟩
  | z :: zs, n, ow, L, hl => by
    have hl : n + (zs.length + 1) ≤ m := hl
    obtain ⟨d, hf, L1⟩ := L.more h (by omega) z
    obtain ⟨ow2, e, L2⟩ := Lay.fold h zs (n + 1) _ L1 (by omega)
    have en : n + (z :: zs).length = n + 1 + zs.length := by rw [List.length_cons]; omega
    rw [en]
    exact ⟨ow2, by rw [List.foldl_cons, stepF_some hf, e], L2⟩
theorem rl_ok (t : SetTable) {hs : Array Int} {k : Nat} (hw : SetTable.sizeAbove k - 1 = m) (h : Mk m) (hn : hs.size ≤ m) :
    ∃ t' od, t.relaid hs k = some (t', od) ∧ od.toList.Perm (List.range hs.size) ∧ Ris t'.place.toList ∧ t'.place.size = hs.size ∧ t'.dummies = #[] ∧ t'.mask = m ∧ t'.led = t.led ∧ t'.plain = t.plain := by
  obtain ⟨ow, e, L⟩ := Lay.fold h hs.toList 0 _ (Lay.zero m) (by rw [Array.length_toList]; omega)
  rw [Array.length_toList, Nat.zero_add] at e L
  have hr : t.relaid hs k = some (tabOf t m ow, ((liveOf m ow).map Prod.snd).toArray) := by
    rw [relaid_eq, hw, layClean_eq, e]
    rfl
  have hris : Ris ((liveOf m ow).map Prod.fst) := (ris_live (fun j => ow.getD j none) (List.range (m + 1)) List.pairwise_lt_range).1
  obtain ⟨ps, p1, p2⟩ := L.used
  have a1 : (liveOf m ow).length ≤ hs.size := by
    have := nat_nodup_len _ ps (hris.imp fun q => Nat.ne_of_lt q) fun x hx => by
      obtain ⟨⟨y, k⟩, hq, rfl⟩ := List.mem_map.mp hx
      have := (mem_live L.wide).mp hq
      exact p2 y this.1 (by rw [this.2]; exact Option.some_ne_none k)
    rw [List.length_map, p1] at this
    exact this
  have hin : ∀ k, k < hs.size → k ∈ (liveOf m ow).map Prod.snd := fun k hk => by
    obtain ⟨j, hj, e⟩ := L.each k hk
    exact List.mem_map.mpr ⟨(j, k), (mem_live L.wide).mpr ⟨hj, e⟩, rfl⟩
  have a2 : hs.size ≤ (liveOf m ow).length := by
    have := nat_nodup_len _ _ List.nodup_range fun x hx => hin x (List.mem_range.mp hx)
    rw [List.length_map, List.length_range] at this
    exact this
  refine ⟨_, _, hr, perm_range _ _ (by show ((liveOf m ow).map Prod.snd).length = _; rw [List.length_map]; omega) hin, hris, ?_, rfl, rfl, rfl, rfl⟩
  show ((liveOf m ow).map Prod.fst).toArray.size = hs.size
  rw [List.size_toArray, List.length_map]
  omega
end
theorem size_77 : SetTable.sizeAbove (SetTable.grown 77) = 512 := by decide +kernel
end Dw

set_option maxHeartbeats 4400000
namespace Dg
/-- _law_drawn: 0 _law_number 1 _law_k 2 _law_drawn_here -/
noncomputable def b_L_drawn : Dn.SF :=
    (Dn.sSeq (Dn.sAsg (Dn.gName 2) (Dn.e2 Dn.modD (Dn.e2 Dn.mulD (Dn.e2 Dn.addD (Dn.e2 Dn.addD (Dn.eVarW 0) (Dn.e2 Dn.mulD (Dn.eC (.int 104729)) (Dn.eVarW 1))) (Dn.eC (.int 17))) (Dn.eC (.int 69621))) (Dn.eC (.int 2147483647))))
    (Dn.sRet (Dn.e2 Dn.modD (Dn.e2 Dn.addD (Dn.e2 Dn.addD (Dn.e2 Dn.mulD (Dn.eVarW 2) (Dn.eVarW 2)) (Dn.e2 Dn.mulD (Dn.eC (.int 3)) (Dn.eVarW 2))) (Dn.eVarW 1)) (Dn.eC (.int 2147483629)))))
noncomputable def L_drawn : Dn.FF := Dn.noX (Dn.runF 2 3 b_L_drawn)
/-- _law_yard: 0 _law_number 1 _law_most 2 _law_wide 3 _law_count 4 _law_found 5 _law_place 6 _law_k 7 _law_low 8 _law_high 9 _law_names 10 _law_at 11 _law_links 12 _law_one 13 _law_other -/
noncomputable def b_L_yard : Dn.SF :=
    (Dn.sSeq (Dn.sAsg (Dn.gName 3) (Dn.e2 Dn.addD (Dn.eC (.int 1)) (Dn.e2 Dn.modD (Dn.eVarW 0) (Dn.eVarW 1))))
    (Dn.sSeq (Dn.sDictNew 4)
    (Dn.sSeq (Dn.sFor (Dn.iRng2 (Dn.eC (.int 1)) (Dn.e2 Dn.addD (Dn.eVarW 3) (Dn.eC (.int 1)))) (Dn.gName 5) (Dn.sDictSet 4 (Dn.e2 Dn.modD (Dn.eCall L_drawn (Dn.aCons (Dn.eVar 0) (Dn.aCons (Dn.eVar 5) Dn.aNil))) (Dn.eVarW 5)) (Dn.eVarW 5) (Dn.e2 Dn.addD (Dn.eC (.int 1)) (Dn.e2 Dn.modD (Dn.eCall L_drawn (Dn.aCons (Dn.eVar 0) (Dn.aCons (Dn.e2 Dn.addD (Dn.eC (.int 10)) (Dn.eVarW 5)) Dn.aNil))) (Dn.eVarW 2)))))
    (Dn.sSeq (Dn.sFor (Dn.iRng1 (Dn.e2 Dn.modD (Dn.e2 Dn.fdivD (Dn.eVarW 0) (Dn.eC (.int 7))) (Dn.eC (.int 4)))) (Dn.gName 6) (Dn.sSeq (Dn.sAsg (Dn.gName 7) (Dn.e2 Dn.modD (Dn.eCall L_drawn (Dn.aCons (Dn.eVar 0) (Dn.aCons (Dn.e2 Dn.addD (Dn.eC (.int 20)) (Dn.eVarW 6)) Dn.aNil))) (Dn.e2 Dn.addD (Dn.eVarW 3) (Dn.eC (.int 1)))))
    (Dn.sSeq (Dn.sAsg (Dn.gName 8) (Dn.e2 Dn.modD (Dn.eCall L_drawn (Dn.aCons (Dn.eVar 0) (Dn.aCons (Dn.e2 Dn.addD (Dn.eC (.int 30)) (Dn.eVarW 6)) Dn.aNil))) (Dn.e2 Dn.addD (Dn.eVarW 3) (Dn.eC (.int 1)))))
    (Dn.sIf (Dn.asB (Dn.e2 Dn.ltD (Dn.eVarW 7) (Dn.eVarW 8))) (Dn.sDictSet 4 (Dn.eVarW 7) (Dn.eVarW 8) (Dn.e2 Dn.addD (Dn.eC (.int 1)) (Dn.e2 Dn.modD (Dn.eCall L_drawn (Dn.aCons (Dn.eVar 0) (Dn.aCons (Dn.e2 Dn.addD (Dn.eC (.int 40)) (Dn.eVarW 6)) Dn.aNil))) (Dn.eVarW 2)))) Dn.sNx))))
    (Dn.sSeq (Dn.sAsg (Dn.gName 9) (Dn.eLst (Dn.aCons (Dn.eC (.int 0)) Dn.aNil)))
    (Dn.sSeq (Dn.sFor (Dn.iRng2 (Dn.eC (.int 1)) (Dn.e2 Dn.addD (Dn.eVarW 3) (Dn.eC (.int 1)))) (Dn.gName 5) (Dn.sSeq (Dn.sAsg (Dn.gName 10) (Dn.e2 Dn.addD (Dn.eC (.int 1)) (Dn.e2 Dn.modD (Dn.eCall L_drawn (Dn.aCons (Dn.eVar 0) (Dn.aCons (Dn.e2 Dn.addD (Dn.eC (.int 60)) (Dn.eVarW 5)) Dn.aNil))) (Dn.eVarW 5))))
    (Dn.sAsg (Dn.gName 9) (Dn.e2 Dn.addD (Dn.e2 Dn.addD (Dn.eCut (Dn.eVarW 9) Dn.oNo (Dn.oInt (Dn.eVarW 10))) (Dn.eLst (Dn.aCons (Dn.eVar 5) Dn.aNil))) (Dn.eCut (Dn.eVarW 9) (Dn.oInt (Dn.eVarW 10)) Dn.oNo)))))
    (Dn.sSeq (Dn.sOwn 11 (Dn.eLst Dn.aNil))
    (Dn.sSeq (Dn.sForKeys 4 (Dn.gTup [7, 8]) (Dn.sSeq (Dn.sAsg (Dn.gName 12) (Dn.e2 Dn.ixD (Dn.eVarW 9) (Dn.eVarW 7)))
    (Dn.sSeq (Dn.sAsg (Dn.gName 13) (Dn.e2 Dn.ixD (Dn.eVarW 9) (Dn.eVarW 8)))
    (Dn.sApp 11 (Dn.eTup (Dn.aCons (Dn.e2 Dn.min2D (Dn.eVarW 12) (Dn.eVarW 13)) (Dn.aCons (Dn.e2 Dn.max2D (Dn.eVarW 12) (Dn.eVarW 13)) (Dn.aCons (Dn.eDictGet 4 (Dn.eVarW 7) (Dn.eVarW 8)) Dn.aNil))))))))
    (Dn.sRet (Dn.eTup (Dn.aCons (Dn.eVar 3) (Dn.aCons (Dn.e1 Dn.tupD (Dn.e1 Dn.sortD (Dn.eVarW 11))) Dn.aNil))))))))))))
noncomputable def L_yard : Dn.FF := Dn.noX (Dn.runF 3 14 b_L_yard)
/-- _law_between: 0 _law_yard_here 1 _law_one 2 _law_other 3 _law_low 4 _law_high 5 _law_many -/
noncomputable def b_L_between : Dn.SF :=
    (Dn.sRet (Dn.e1 Dn.sumD (Dn.eComp (Dn.iSeq (Dn.e2 Dn.ixD (Dn.eVarW 0) (Dn.eC (.int 1)))) (Dn.gTup [3, 4, 5]) (Dn.tAndF (Dn.asB (Dn.e2 Dn.neD (Dn.eVarW 3) (Dn.eVarW 4))) (Dn.asB (Dn.e2 Dn.inD (Dn.eTup (Dn.aCons (Dn.eVar 3) (Dn.aCons (Dn.eVar 4) Dn.aNil))) (Dn.eTup (Dn.aCons (Dn.eTup (Dn.aCons (Dn.eVar 1) (Dn.aCons (Dn.eVar 2) Dn.aNil))) (Dn.aCons (Dn.eTup (Dn.aCons (Dn.eVar 2) (Dn.aCons (Dn.eVar 1) Dn.aNil))) Dn.aNil)))))) (Dn.eVar 5) [3, 4, 5])))
noncomputable def L_between : Dn.FF := Dn.noX (Dn.runF 3 6 b_L_between)
/-- _law_sizes: 0 _law_yard_here 1 _law_found 2 _law_place 3 _law_other -/
noncomputable def b_L_sizes : Dn.SF :=
    (Dn.sSeq (Dn.sOwn 1 (Dn.eLst Dn.aNil))
    (Dn.sSeq (Dn.sFor (Dn.iRng2 (Dn.eC (.int 1)) (Dn.e2 Dn.addD (Dn.e2 Dn.ixD (Dn.eVarW 0) (Dn.eC (.int 0))) (Dn.eC (.int 1)))) (Dn.gName 2) (Dn.sApp 1 (Dn.e1 Dn.sumD (Dn.eComp (Dn.iRng1 (Dn.e2 Dn.addD (Dn.e2 Dn.ixD (Dn.eVarW 0) (Dn.eC (.int 0))) (Dn.eC (.int 1)))) (Dn.gName 3) Dn.tYesF (Dn.eCall L_between (Dn.aCons (Dn.eVar 0) (Dn.aCons (Dn.eVar 2) (Dn.aCons (Dn.eVar 3) Dn.aNil)))) [3]))))
    (Dn.sRetO 1)))
noncomputable def L_sizes : Dn.FF := Dn.noX (Dn.runF 1 4 b_L_sizes)
/-- sizes: 0 yard 1 found 2 place 3 low 4 high 5 many -/
noncomputable def b_P_sizes : Dn.SF :=
    (Dn.sSeq (Dn.sOwn 1 (Dn.eLst Dn.aNil))
    (Dn.sSeq (Dn.sFor (Dn.iRng2 (Dn.eC (.int 1)) (Dn.e2 Dn.addD (Dn.e2 Dn.ixD (Dn.eVarW 0) (Dn.eC (.int 0))) (Dn.eC (.int 1)))) (Dn.gName 2) (Dn.sApp 1 (Dn.e1 Dn.sumD (Dn.eComp (Dn.iSeq (Dn.e2 Dn.ixD (Dn.eVarW 0) (Dn.eC (.int 1)))) (Dn.gTup [3, 4, 5]) (Dn.asB (Dn.e2 Dn.inD (Dn.eVarW 2) (Dn.eTup (Dn.aCons (Dn.eVar 3) (Dn.aCons (Dn.eVar 4) Dn.aNil))))) (Dn.eVar 5) [3, 4, 5]))))
    (Dn.sRet (Dn.e1 Dn.tupD (Dn.eVarW 1)))))
noncomputable def P_sizes : Dn.FF := Dn.noX (Dn.runF 1 6 b_P_sizes)
/-- rests: 0 yard 1 grains 2 part 3 size -/
noncomputable def b_P_rests : Dn.SF :=
    (Dn.sRet (Dn.e1 Dn.allD (Dn.eComp (Dn.iZip (Dn.eVar 1) (Dn.eCall P_sizes (Dn.aCons (Dn.eVar 0) Dn.aNil))) (Dn.gTup [2, 3]) Dn.tYesF (Dn.e2 Dn.ltD (Dn.eVarW 2) (Dn.eVarW 3)) [2, 3])))
noncomputable def P_rests : Dn.FF := Dn.noX (Dn.runF 2 4 b_P_rests)
/-- between: 0 yard 1 one 2 other 3 low 4 high 5 many -/
noncomputable def b_P_between : Dn.SF :=
    (Dn.sSeq (Dn.sFor (Dn.iSeq (Dn.e2 Dn.ixD (Dn.eVarW 0) (Dn.eC (.int 1)))) (Dn.gTup [3, 4, 5]) (Dn.sIf (Dn.asB (Dn.e2 Dn.eqD (Dn.eTup (Dn.aCons (Dn.eVar 3) (Dn.aCons (Dn.eVar 4) Dn.aNil))) (Dn.eTup (Dn.aCons (Dn.e2 Dn.min2D (Dn.eVarW 1) (Dn.eVarW 2)) (Dn.aCons (Dn.e2 Dn.max2D (Dn.eVarW 1) (Dn.eVarW 2)) Dn.aNil))))) (Dn.sRet (Dn.eVar 5)) Dn.sNx))
    (Dn.sRet (Dn.eC (.int 0))))
noncomputable def P_between : Dn.FF := Dn.noX (Dn.runF 3 6 b_P_between)
/-- burn: 0 yard 1 grains 2 left 3 found 4 more 5 turn 6 place 7 other -/
noncomputable def b_P_burn : Dn.SF :=
    (Dn.sSeq (Dn.sIf (Dn.tNotF (Dn.asB (Dn.eCall P_rests (Dn.aCons (Dn.eVar 0) (Dn.aCons (Dn.eVar 1) Dn.aNil))))) (Dn.sExc "NoRest") Dn.sNx)
    (Dn.sSeq (Dn.sAsg (Dn.gName 2) (Dn.e2 Dn.lrangeD (Dn.eC (.int 1)) (Dn.e2 Dn.addD (Dn.e2 Dn.ixD (Dn.eVarW 0) (Dn.eC (.int 0))) (Dn.eC (.int 1)))))
    (Dn.sSeq (Dn.sOwn 3 (Dn.eLst Dn.aNil))
    (Dn.sSeq (Dn.sAsg (Dn.gName 4) (Dn.eC (.bool true)))
    (Dn.sSeq (Dn.sWhile (Dn.asB (Dn.eVarW 4)) (Dn.sSeq (Dn.sAsg (Dn.gName 5) (Dn.eComp (Dn.iSeq (Dn.eVar 2)) (Dn.gName 6) (Dn.asB (Dn.e2 Dn.geD (Dn.e2 Dn.ixD (Dn.eVarW 1) (Dn.e2 Dn.subD (Dn.eVarW 6) (Dn.eC (.int 1)))) (Dn.e1 Dn.sumD (Dn.eComp (Dn.iSeq (Dn.eVar 2)) (Dn.gName 7) Dn.tYesF (Dn.eCall P_between (Dn.aCons (Dn.eVar 0) (Dn.aCons (Dn.eVar 6) (Dn.aCons (Dn.eVar 7) Dn.aNil)))) [7])))) (Dn.eVar 6) [6]))
    (Dn.sSeq (Dn.sAsg (Dn.gName 2) (Dn.eComp (Dn.iSeq (Dn.eVar 2)) (Dn.gName 6) (Dn.asB (Dn.e2 Dn.inN (Dn.eVarW 6) (Dn.eVarW 5))) (Dn.eVar 6) [6]))
    (Dn.sSeq (Dn.sAsg (Dn.gName 4) (Dn.e2 Dn.gtD (Dn.e1 Dn.lenD (Dn.eVarW 5)) (Dn.eC (.int 0))))
    (Dn.sIf (Dn.asB (Dn.eVarW 4)) (Dn.sApp 3 (Dn.e1 Dn.tupD (Dn.eVarW 5))) Dn.sNx)))))
    (Dn.sRet (Dn.e1 Dn.tupD (Dn.eVarW 3))))))))
noncomputable def P_burn : Dn.FF := Dn.runF 2 8 b_P_burn
/-- is_lasting: 0 yard 1 grains 2 turn -/
noncomputable def b_P_is_lasting : Dn.SF :=
    (Dn.sRet (Dn.e2 Dn.eqD (Dn.e1 Dn.sumD (Dn.eComp (Dn.iSeq (Dn.eCall P_burn (Dn.aCons (Dn.eVar 0) (Dn.aCons (Dn.eVar 1) Dn.aNil)))) (Dn.gName 2) Dn.tYesF (Dn.e1 Dn.lenD (Dn.eVarW 2)) [2])) (Dn.e2 Dn.ixD (Dn.eVarW 0) (Dn.eC (.int 0)))))
noncomputable def P_is_lasting : Dn.FF := Dn.runF 2 3 b_P_is_lasting
/-- _law_told: 0 _law_yard_here 1 _law_grains_here 2 _law_which 3 e 4 _law_some -/
noncomputable def b_L_told : Dn.SF :=
    (Dn.sTry (Dn.sSeq (Dn.sIf (Dn.asB (Dn.e2 Dn.eqD (Dn.eVarW 2) (Dn.eC (.int 0)))) (Dn.sRet (Dn.eCall P_burn (Dn.aCons (Dn.eVar 0) (Dn.aCons (Dn.eVar 1) Dn.aNil)))) Dn.sNx)
    (Dn.sRet (Dn.eCall P_is_lasting (Dn.aCons (Dn.eVar 0) (Dn.aCons (Dn.eVar 1) Dn.aNil))))) "NoRest" (.str "none"))
noncomputable def L_told : Dn.FF := Dn.noX (Dn.runF 3 5 b_L_told)
/-- _law_cell_at: 0 _law_script 1 _law_k -/
noncomputable def b_L_cell_at : Dn.SF :=
    (Dn.sSeq (Dn.sIf (Dn.asB (Dn.e2 Dn.ltD (Dn.eVarW 1) (Dn.e1 Dn.lenD (Dn.eVarW 0)))) (Dn.sRet (Dn.e2 Dn.ixD (Dn.eVarW 0) (Dn.eVarW 1))) Dn.sNx)
    (Dn.sRet (Dn.eC (.int 0))))
noncomputable def L_cell_at : Dn.FF := Dn.noX (Dn.runF 2 2 b_L_cell_at)
/-- _law_mixed: 0 _law_script 1 _law_k 2 _law_drawn_here -/
noncomputable def b_L_mixed : Dn.SF :=
    (Dn.sSeq (Dn.sAsg (Dn.gName 2) (Dn.e2 Dn.modD (Dn.e2 Dn.mulD (Dn.e2 Dn.addD (Dn.e2 Dn.addD (Dn.eCall L_cell_at (Dn.aCons (Dn.eVar 0) (Dn.aCons (Dn.eVar 1) Dn.aNil))) (Dn.e2 Dn.mulD (Dn.eC (.int 7919)) (Dn.eVarW 1))) (Dn.eC (.int 1))) (Dn.eC (.int 48271))) (Dn.eC (.int 2147483647))))
    (Dn.sRet (Dn.e2 Dn.modD (Dn.e2 Dn.addD (Dn.e2 Dn.addD (Dn.e2 Dn.mulD (Dn.eVarW 2) (Dn.eVarW 2)) (Dn.e2 Dn.mulD (Dn.eC (.int 7)) (Dn.eVarW 2))) (Dn.eVarW 1)) (Dn.eC (.int 2147483629)))))
noncomputable def L_mixed : Dn.FF := Dn.noX (Dn.runF 2 3 b_L_mixed)
/-- law: 0 _law_script 1 _law_yard_here 2 _law_count 3 _law_bounds 4 _law_share 5 _law_grains_here 6 _law_k 7 _law_size 8 _law_at 9 _law_burnt 10 _law_due 11 _law_turn 12 _law_place 13 _law_cold 14 _law_left 15 _law_found 16 _law_other -/
noncomputable def b_P_law : Dn.SF :=
    (Dn.sSeq (Dn.sAsg (Dn.gName 1) (Dn.eCall L_yard (Dn.aCons (Dn.eCall L_mixed (Dn.aCons (Dn.eVar 0) (Dn.aCons (Dn.eC (.int 0)) Dn.aNil))) (Dn.aCons (Dn.eC (.int 5)) (Dn.aCons (Dn.eC (.int 4)) Dn.aNil)))))
    (Dn.sSeq (Dn.sAsg (Dn.gName 2) (Dn.e2 Dn.ixD (Dn.eVarW 1) (Dn.eC (.int 0))))
    (Dn.sSeq (Dn.sAsg (Dn.gName 3) (Dn.eCall L_sizes (Dn.aCons (Dn.eVar 1) Dn.aNil)))
    (Dn.sSeq (Dn.sAsg (Dn.gName 4) (Dn.e2 Dn.ixD (Dn.eLst (Dn.aCons (Dn.eC (.int 1)) (Dn.aCons (Dn.eC (.int 1)) (Dn.aCons (Dn.eC (.int 2)) (Dn.aCons (Dn.eC (.int 3)) Dn.aNil))))) (Dn.e2 Dn.modD (Dn.eCall L_mixed (Dn.aCons (Dn.eVar 0) (Dn.aCons (Dn.eC (.int 2)) Dn.aNil))) (Dn.eC (.int 4)))))
    (Dn.sSeq (Dn.sAsg (Dn.gName 5) (Dn.eTup Dn.aNil))
    (Dn.sSeq (Dn.sFor (Dn.iEnumA (Dn.eVar 3)) (Dn.gTup [6, 7]) (Dn.sAsg (Dn.gName 5) (Dn.e2 Dn.addD (Dn.eVarW 5) (Dn.eTup (Dn.aCons (Dn.e2 Dn.subD (Dn.e2 Dn.subD (Dn.eVarW 7) (Dn.eC (.int 1))) (Dn.e2 Dn.fdivD (Dn.e2 Dn.modD (Dn.eCall L_drawn (Dn.aCons (Dn.eCall L_mixed (Dn.aCons (Dn.eVar 0) (Dn.aCons (Dn.eC (.int 1)) Dn.aNil))) (Dn.aCons (Dn.eVar 6) Dn.aNil))) (Dn.eVarW 7)) (Dn.eVarW 4))) Dn.aNil)))))
    (Dn.sSeq (Dn.sIf (Dn.asB (Dn.e2 Dn.eqD (Dn.e2 Dn.modD (Dn.eCall L_mixed (Dn.aCons (Dn.eVar 0) (Dn.aCons (Dn.eC (.int 3)) Dn.aNil))) (Dn.eC (.int 5))) (Dn.eC (.int 1)))) (Dn.sSeq (Dn.sAsg (Dn.gName 8) (Dn.e2 Dn.modD (Dn.e2 Dn.fdivD (Dn.eCall L_mixed (Dn.aCons (Dn.eVar 0) (Dn.aCons (Dn.eC (.int 3)) Dn.aNil))) (Dn.eC (.int 5))) (Dn.eVarW 2)))
    (Dn.sSeq (Dn.sAsg (Dn.gName 5) (Dn.e2 Dn.addD (Dn.e2 Dn.addD (Dn.eCut (Dn.eVarW 5) Dn.oNo (Dn.oInt (Dn.eVarW 8))) (Dn.eTup (Dn.aCons (Dn.e2 Dn.addD (Dn.e2 Dn.ixD (Dn.eVarW 3) (Dn.eVarW 8)) (Dn.e2 Dn.modD (Dn.e2 Dn.fdivD (Dn.eCall L_mixed (Dn.aCons (Dn.eVar 0) (Dn.aCons (Dn.eC (.int 3)) Dn.aNil))) (Dn.eC (.int 25))) (Dn.eC (.int 3)))) Dn.aNil))) (Dn.eCut (Dn.eVarW 5) (Dn.oInt (Dn.e2 Dn.addD (Dn.eVarW 8) (Dn.eC (.int 1)))) Dn.oNo)))
    (Dn.sRet (Dn.eAnd (Dn.e2 Dn.eqD (Dn.eCall L_told (Dn.aCons (Dn.eVar 1) (Dn.aCons (Dn.eVar 5) (Dn.aCons (Dn.eC (.int 0)) Dn.aNil)))) (Dn.eC (.str "none"))) (Dn.e2 Dn.eqD (Dn.eCall L_told (Dn.aCons (Dn.eVar 1) (Dn.aCons (Dn.eVar 5) (Dn.aCons (Dn.eC (.int 1)) Dn.aNil)))) (Dn.eC (.str "none"))))))) Dn.sNx)
    (Dn.sSeq (Dn.sAsg (Dn.gName 9) (Dn.eLst (Dn.aCons (Dn.eC (.int 0)) Dn.aNil)))
    (Dn.sSeq (Dn.sOwn 10 (Dn.eLst Dn.aNil))
    (Dn.sSeq (Dn.sFor (Dn.iRng1 (Dn.e2 Dn.addD (Dn.eVarW 2) (Dn.eC (.int 1)))) (Dn.gName 6) (Dn.sSeq (Dn.sOwn 11 (Dn.eLst Dn.aNil))
    (Dn.sSeq (Dn.sFor (Dn.iRng2 (Dn.eC (.int 1)) (Dn.e2 Dn.addD (Dn.eVarW 2) (Dn.eC (.int 1)))) (Dn.gName 12) (Dn.sSeq (Dn.sAsg (Dn.gName 13) (Dn.eComp (Dn.iRng2 (Dn.eC (.int 1)) (Dn.e2 Dn.addD (Dn.eVarW 2) (Dn.eC (.int 1)))) (Dn.gName 16) (Dn.tAndF (Dn.asB (Dn.e2 Dn.inN (Dn.eVarW 16) (Dn.eVarW 9))) (Dn.asB (Dn.e2 Dn.neD (Dn.eVarW 16) (Dn.eVarW 12)))) (Dn.eVar 16) [16]))
    (Dn.sSeq (Dn.sAsg (Dn.gName 14) (Dn.e1 Dn.sumD (Dn.eComp (Dn.iSeq (Dn.eVar 13)) (Dn.gName 16) Dn.tYesF (Dn.eCall L_between (Dn.aCons (Dn.eVar 1) (Dn.aCons (Dn.eVar 12) (Dn.aCons (Dn.eVar 16) Dn.aNil)))) [16])))
    (Dn.sIf (Dn.tAndF (Dn.asB (Dn.e2 Dn.inN (Dn.eVarW 12) (Dn.eVarW 9))) (Dn.asB (Dn.e2 Dn.geD (Dn.e2 Dn.ixD (Dn.eVarW 5) (Dn.e2 Dn.subD (Dn.eVarW 12) (Dn.eC (.int 1)))) (Dn.eVarW 14)))) (Dn.sApp 11 (Dn.eVar 12)) Dn.sNx))))
    (Dn.sSeq (Dn.sIf (Dn.asB (Dn.e2 Dn.neD (Dn.eVarW 11) (Dn.eLst Dn.aNil))) (Dn.sApp 10 (Dn.e1 Dn.tupD (Dn.eVarW 11))) Dn.sNx)
    (Dn.sAsg (Dn.gName 9) (Dn.e2 Dn.addD (Dn.eVarW 9) (Dn.eVarW 11)))))))
    (Dn.sSeq (Dn.sAsg (Dn.gName 15) (Dn.eCall L_told (Dn.aCons (Dn.eVar 1) (Dn.aCons (Dn.eVar 5) (Dn.aCons (Dn.eC (.int 1)) Dn.aNil)))))
    (Dn.sRet (Dn.eAnd (Dn.e2 Dn.eqD (Dn.eCall L_told (Dn.aCons (Dn.eVar 1) (Dn.aCons (Dn.eVar 5) (Dn.aCons (Dn.eC (.int 0)) Dn.aNil)))) (Dn.e1 Dn.tupD (Dn.eVarW 10))) (Dn.eAnd (Dn.e1 (Dn.isiD 1) (Dn.eVarW 15)) (Dn.e2 Dn.eqD (Dn.eVarW 15) (Dn.e2 Dn.eqD (Dn.e1 Dn.lenD (Dn.eVarW 9)) (Dn.e2 Dn.addD (Dn.eVarW 2) (Dn.eC (.int 1)))))))))))))))))))
noncomputable def P_law : Dn.FF := Dn.noX (Dn.runF 1 17 b_P_law)
/-- _law_grains: 0 _law_number 1 _law_count 2 _law_most 3 _law_k -/
noncomputable def b_L_grains : Dn.SF :=
    (Dn.sRet (Dn.e1 Dn.tupD (Dn.eComp (Dn.iRng1 (Dn.eVarW 1)) (Dn.gName 3) Dn.tYesF (Dn.e2 Dn.modD (Dn.eCall L_drawn (Dn.aCons (Dn.eVar 0) (Dn.aCons (Dn.e2 Dn.addD (Dn.eC (.int 50)) (Dn.eVarW 3)) Dn.aNil))) (Dn.e2 Dn.addD (Dn.eVarW 2) (Dn.eC (.int 1)))) [3])))
noncomputable def L_grains : Dn.FF := Dn.noX (Dn.runF 3 4 b_L_grains)
end Dg

set_option maxHeartbeats 4400000
namespace Pe
open Dn
open PySem (PyData)
abbrev Lk := Int × Int × Int
def encL (l : Lk) : D := .tuple [.int l.1, .int l.2.1, .int l.2.2]
def encLs (ls : List Lk) : D := .tuple (ls.map encL)
def encY (c : Int) (ls : List Lk) : D := .tuple [.int c, encLs ls]
def encG (g : List Int) : D := .tuple (g.map .int)
def btw : List Lk → Int → Int → Int
  | [], _, _ => 0
  | l :: r, i, j => if l.1 = min i j ∧ l.2.1 = max i j then l.2.2 else btw r i j
/-! ### rules -/
theorem e2_of {g : D → D → Option D} {fa fb : EF} {ρ : Env} {a b r : D} (h1 : fa ρ = some (.ok a)) (h2 : fb ρ = some (.ok b)) (h3 : g a b = some r) : e2 g fa fb ρ = some (.ok r) := by
  unfold e2
  rw [h1, bnd_ok, h2, bnd_ok, h3]
  rfl
theorem e1_of {g : D → Option D} {fa : EF} {ρ : Env} {a r : D} (h1 : fa ρ = some (.ok a)) (h3 : g a = some r) : e1 g fa ρ = some (.ok r) := by
  unfold e1
  rw [h1, bnd_ok, h3]
  rfl
@[simp] theorem intEq (a b : Int) : eqD (.int a) (.int b) = some (.bool (a == b)) := by
  simp [eqD, okD, PySem.PyData.plain, PySem.PyData.depth, PySem.PyData.eqv]
@[simp] theorem intNe (a b : Int) : neD (.int a) (.int b) = some (.bool (!(a == b))) := by
  simp [neD, okD, PySem.PyData.plain, PySem.PyData.depth, PySem.PyData.eqv]
@[simp] theorem intLt (a b : Int) : ltD (.int a) (.int b) = some (.bool (decide (a < b))) := by
  simp [ltD, cmpOk, PySem.W.alike, PySem.PyData.depth, PySem.W.dataLt_int]
@[simp] theorem intGt (a b : Int) : gtD (.int a) (.int b) = some (.bool (decide (b < a))) := by
  simp [gtD, cmpOk, PySem.W.alike, PySem.PyData.depth, PySem.W.dataLt_int]
@[simp] theorem intGe (a b : Int) : geD (.int a) (.int b) = some (.bool (decide (b ≤ a))) := by
  simp [geD, cmpOk, PySem.W.alike, PySem.PyData.depth, PySem.W.dataLt_int]
  by_cases h : a < b
  · simp [h, Int.not_le.mpr h]
  · simp [h, Int.not_lt.mp h]
@[simp] theorem intLe (a b : Int) : leD (.int a) (.int b) = some (.bool (decide (a ≤ b))) := by
  simp [leD, cmpOk, PySem.W.alike, PySem.PyData.depth, PySem.W.dataLt_int]
  by_cases h : b < a
  · simp [h, Int.not_le.mpr h]
  · simp [h, Int.not_lt.mp h]
@[simp] theorem pairEq (a b c d : Int) : eqD (.tuple [.int a, .int b]) (.tuple [.int c, .int d]) = some (.bool (decide (a = c ∧ b = d))) := by
  simp [eqD, okD, PySem.PyData.plain, PySem.PyData.plainAll, PySem.PyData.depth, PySem.PyData.depthAll, PySem.PyData.eqv, PySem.PyData.eqvAll]
  rw [Bool.eq_iff_iff]
  simp
theorem max2_eq (a b : Int) : max2D (.int a) (.int b) = some (.int (max a b)) := by
  have h : (if b > a then b else a) = max a b := by split <;> omega
  show some (PyData.int (if b > a then b else a)) = _
  rw [h]
theorem min2_eq (a b : Int) : min2D (.int a) (.int b) = some (.int (min a b)) := by
  have h : (if b < a then b else a) = min a b := by split <;> omega
  show some (PyData.int (if b < a then b else a)) = _
  rw [h]
/-! loops, comprehensions -/
theorem forL_fold {α S : Type} {g : GF} {b : SF} (enc : α → D) (st : S → Dn.Env) (f : S → α → S) : ∀ (xs : List α) (s : S), (∀ s x, x ∈ xs → ∃ ρ1, g (enc x) (st s) = some ρ1 ∧ b ρ1 = some (.nx (st (f s x)))) →
    forL g b (xs.map enc) (st s) = some (.nx (st (xs.foldl f s)))
  | [], s, _ => rfl
  | x :: xs, s, h => by
    obtain ⟨ρ1, h1, h2⟩ := h s x List.mem_cons_self
    rw [List.map_cons]
    unfold forL
    rw [h1]
    simp only
    rw [h2]
    simp only
    exact forL_fold enc st f xs (f s x) fun s y hy => h s y (List.mem_cons_of_mem _ hy)
/-- with an invariant -/
theorem forL_inv {α S : Type} {g : GF} {b : SF} (enc : α → D) (st : S → Dn.Env) (f : S → α → S) (I : S → Prop) : ∀ (xs : List α) (s : S), I s → (∀ s x, x ∈ xs → I s → I (f s x) ∧ ∃ ρ1, g (enc x) (st s) = some ρ1 ∧ b ρ1 = some (.nx (st (f s x)))) →
    forL g b (xs.map enc) (st s) = some (.nx (st (xs.foldl f s))) ∧ I (xs.foldl f s)
  | [], s, i, _ => ⟨rfl, i⟩
  | x :: xs, s, i, h => by
    obtain ⟨i2, ρ1, h1, h2⟩ := h s x List.mem_cons_self i
    have ih := forL_inv enc st f I xs (f s x) i2 fun s y hy => h s y (List.mem_cons_of_mem _ hy)
    rw [List.map_cons]
    unfold forL
    rw [h1]
    simp only
    rw [h2]
    simp only
    exact ih
/-- the state as a function of the part gone through -/
theorem forL_pre {α : Type} {g : GF} {b : SF} (enc : α → D) (st : List α → Dn.Env) : ∀ (post pre : List α), (∀ pr x po, pre ++ post = pr ++ x :: po → ∃ ρ1, g (enc x) (st pr) = some ρ1 ∧ b ρ1 = some (.nx (st (pr ++ [x])))) →
    forL g b (post.map enc) (st pre) = some (.nx (st (pre ++ post)))
  | [], pre, _ => by
    rw [List.append_nil]
    rfl
  | x :: post, pre, h => by
    obtain ⟨ρ1, h1, h2⟩ := h pre x post rfl
    rw [List.map_cons]
    unfold forL
    rw [h1]
    simp only
    rw [h2]
    simp only
    have e : pre ++ x :: post = (pre ++ [x]) ++ post := by simp
    rw [e] at h ⊢
    exact forL_pre enc st post (pre ++ [x]) h
theorem compL_map {α : Type} {g : GF} {t : TF} {f : EF} (enc : α → D) (ρ : Dn.Env) (p : α → Bool) (e : α → D) : ∀ (xs : List α), (∀ x, x ∈ xs → ∃ ρ1, g (enc x) ρ = some ρ1 ∧ t ρ1 = some (.ok (p x)) ∧ (p x = true → f ρ1 = some (.ok (e x)))) →
    compL g t f ρ (xs.map enc) = some (.ok ((xs.filter p).map e))
  | [], _ => rfl
  | x :: xs, h => by
    obtain ⟨ρ1, h1, h2, h3⟩ := h x List.mem_cons_self
    have ih := compL_map enc ρ p e xs fun y hy => h y (List.mem_cons_of_mem _ hy)
    rw [List.map_cons]
    unfold compL
    rw [h1]
    simp only
    rw [h2]
    cases hp : p x with
    | true =>
      simp only
      rw [h3 hp]
      simp only
      rw [ih, bnd_ok, List.filter_cons_of_pos hp]
      rfl
    | false =>
      simp only
      rw [ih, List.filter_cons_of_neg (by rw [hp]; exact Bool.false_ne_true)]
theorem compL_all {α : Type} {g : GF} {f : EF} (enc : α → D) (ρ : Dn.Env) (e : α → D) (xs : List α) (h : ∀ x, x ∈ xs → ∃ ρ1, g (enc x) ρ = some ρ1 ∧ f ρ1 = some (.ok (e x))) :
    compL g tYesF f ρ (xs.map enc) = some (.ok (xs.map e)) := by
  have := compL_map (t := tYesF) enc ρ (fun _ => true) e xs fun x hx => by
    obtain ⟨ρ1, h1, h2⟩ := h x hx
    exact ⟨ρ1, h1, rfl, fun _ => h2⟩
  rw [List.filter_eq_self.mpr (fun _ _ => rfl)] at this
  exact this
theorem intsOf_map : ∀ ns : List Int, intsOf (ns.map .int) = some ns
  | [] => rfl
  | n :: ns => by
    show (intsOf (ns.map .int)).map (n :: ·) = _
    rw [intsOf_map ns]
    rfl
theorem boolsOf_map : ∀ ns : List Bool, boolsOf (ns.map .bool) = some ns
  | [] => rfl
  | n :: ns => by
    show (boolsOf (ns.map .bool)).map (n :: ·) = _
    rw [boolsOf_map ns]
    rfl
@[simp] theorem runF_ok {n N : Nat} {b : SF} {ds : List D} {d : D} (hl : ds.length = n) (h : b (ds.map (fun d => some (.dat d)) ++ List.replicate (N - n) none) = some (.rt d)) : noX (runF n N b) ds = some (.ok d) := by
  unfold noX runF
  rw [if_pos hl, h]
  rfl
/-! evaluation -/
section
variable {ρ : Dn.Env} {i : Nat} {d : D} {fa fb fc : EF} {fs : AF} {α : Type}
@[simp] theorem ev_ret (a : α) : (ret a : M α) = some (.ok a) := rfl
@[simp] theorem ev_var : eVar i ρ = (match ρ[i]? with
  | some (some (.dat d)) => ret d
  | _ => none) := rfl
@[simp] theorem ev_varW : eVarW i ρ = (match ρ[i]? with
  | some (some (.dat d)) => ret d
  | some (some (.own ds)) => ret (.list ds)
  | _ => none) := rfl
@[simp] theorem ev_c : eC d ρ = some (.ok d) := rfl
@[simp] theorem ev_e1 {g : D → Option D} : e1 g fa ρ = bnd (fa ρ) fun a => lft (g a) := rfl
@[simp] theorem ev_e2 {g : D → D → Option D} : e2 g fa fb ρ = bnd (fa ρ) fun a => bnd (fb ρ) fun b => lft (g a b) := rfl
@[simp] theorem ev_asB : asB fa ρ = bnd (fa ρ) fun a => lft (boolD a) := rfl
@[simp] theorem ev_and : eAnd fa fb ρ = bnd (asB fa ρ) fun c => if c = true then fb ρ else ret (.bool false) := rfl
@[simp] theorem ev_or : eOr fa fb ρ = bnd (asB fa ρ) fun c => if c = true then ret (.bool true) else fb ρ := rfl
@[simp] theorem ev_aNil : aNil ρ = some (.ok []) := rfl
@[simp] theorem ev_aCons {fr : AF} : aCons fa fr ρ = bnd (fa ρ) fun a => bnd (fr ρ) fun r => ret (a :: r) := rfl
@[simp] theorem ev_tup : eTup fs ρ = bnd (fs ρ) fun ds => if ds.length ≤ 1000 then ret (.tuple ds) else none := rfl
@[simp] theorem ev_lst : eLst fs ρ = bnd (fs ρ) fun ds => if ds.length ≤ 1000 then ret (.list ds) else none := rfl
@[simp] theorem ev_call {g : FF} : eCall g fs ρ = bnd (fs ρ) g := rfl
@[simp] theorem ev_iSeq : iSeq fa ρ = bnd (fa ρ) fun a => lft (seqOf a) := rfl
@[simp] theorem ev_iRng1 : iRng1 fa ρ = bnd (fa ρ) fun a => lft (rangeD (.int 0) a) := rfl
@[simp] theorem ev_iRng2 : iRng2 fa fb ρ = bnd (fa ρ) fun a => bnd (fb ρ) fun b => lft (rangeD a b) := rfl
@[simp] theorem ev_iZip : iZip fa fb ρ = bnd (fa ρ) fun a => bnd (fb ρ) fun b => lft (zipD a b) := rfl
@[simp] theorem ev_gName : gName i d ρ = some (ρ.set i (some (.dat d))) := rfl
@[simp] theorem ev_gTup {is : List Nat} {ds : List D} : gTup is (.tuple ds) ρ = setAll is ds ρ := rfl
@[simp] theorem ev_setNil : setAll [] [] ρ = some ρ := rfl
@[simp] theorem ev_setCons {is : List Nat} {ds : List D} : setAll (i :: is) (d :: ds) ρ = setAll is ds (ρ.set i (some (.dat d))) := rfl
@[simp] theorem ev_sNx : sNx ρ = some (.nx ρ) := rfl
@[simp] theorem ev_sSeq {a b : SF} : sSeq a b ρ = (match a ρ with
  | some (.nx ρ') => b ρ'
  | x => x) := rfl
@[simp] theorem ev_sIf {t : TF} {a b : SF} : sIf t a b ρ = bS (t ρ) fun c => if c = true then a ρ else b ρ := rfl
@[simp] theorem ev_sRet : sRet fa ρ = bS (fa ρ) fun d => some (.rt d) := rfl
@[simp] theorem ev_sAsg {g : GF} : sAsg g fa ρ = bS (fa ρ) fun d => (g d ρ).map .nx := rfl
@[simp] theorem ev_sOwn : sOwn i fa ρ = bS (fa ρ) fun d => match d with
  | .list ds => some (.nx (ρ.set i (some (.own ds))))
  | _ => none := rfl
@[simp] theorem ev_sApp : sApp i fa ρ = (match ρ[i]? with
  | some (some (.own ds)) => bS (fa ρ) fun d => if ds.length < 1000000 then some (.nx (ρ.set i (some (.own (ds ++ [d]))))) else none
  | _ => none) := rfl
@[simp] theorem ev_sFor {g : GF} {b : SF} : sFor fs g b ρ = bS (fs ρ) fun ds => forL g b ds ρ := rfl
@[simp] theorem ev_addI (a b : Int) : addD (.int a) (.int b) = some (.int (a + b)) := rfl
@[simp] theorem ev_subI (a b : Int) : subD (.int a) (.int b) = some (.int (a - b)) := rfl
@[simp] theorem ev_boolD (b : Bool) : boolD (.bool b) = some b := rfl
@[simp] theorem ev_seqL (xs : List D) : seqOf (.list xs) = some xs := rfl
@[simp] theorem ev_seqT (xs : List D) : seqOf (.tuple xs) = some xs := rfl
@[simp] theorem ev_tupL (xs : List D) : tupD (.list xs) = some (.tuple xs) := rfl
@[simp] theorem ev_comp {g : GF} {t : TF} {vs : List Nat} : eComp fs g t fa vs ρ = bnd (fs ρ) fun ds => if ds.length ≤ 1000000 then bnd (compL g t fa (wipe ρ vs) ds) fun r => ret (.list r) else none := rfl
@[simp] theorem ev_wipe0 : wipe ρ [] = ρ := rfl
@[simp] theorem ev_wipe1 {vs : List Nat} : wipe ρ (i :: vs) = (wipe ρ vs).set i none := rfl
@[simp] theorem ev_sum (ns : List Int) : sumD (.list (ns.map .int)) = some (.int ns.sum) := by
  show (intsOf (ns.map .int)).map _ = _
  rw [intsOf_map]
  rfl
@[simp] theorem ev_all (ns : List Bool) : allD (.list (ns.map .bool)) = some (.bool (ns.all id)) := by
  show (boolsOf (ns.map .bool)).map _ = _
  rw [boolsOf_map]
  rfl
@[simp] theorem ev_ix0 (x : D) (r : List D) : ixD (.tuple (x :: r)) (.int 0) = some x := by
  simp [ixD, ixNat]
@[simp] theorem ev_ix1 (x y : D) (r : List D) : ixD (.tuple (x :: y :: r)) (.int 1) = some y := by
  simp [ixD, ixNat]
  rw [if_pos (by omega)]
  rfl
theorem ev_ixG {g : List Int} {k : Nat} {v : Int} (h : g[k]? = some v) : ixD (encG g) (.int k) = some (.int v) := by
  have hl : k < g.length := (List.getElem?_eq_some_iff.mp h).1
  simp [encG, ixD, ixNat, hl]
  rw [List.getElem?_eq_getElem hl] at h
  exact Option.some.inj h
end
/-! between -/
theorem lp_between (Y : Option Sl) (i j : Int) : ∀ (ls : List Lk) (s3 s4 s5 : Option Sl), ∃ s3' s4' s5',
    forL (gTup [3, 4, 5]) (sIf (asB (e2 eqD (eTup (aCons (eVar 3) (aCons (eVar 4) aNil))) (eTup (aCons (e2 min2D (eVarW 1) (eVarW 2)) (aCons (e2 max2D (eVarW 1) (eVarW 2)) aNil))))) (sRet (eVar 5)) sNx) (ls.map encL) [Y, some (.dat (.int i)), some (.dat (.int j)), s3, s4, s5]
      = some (.rt (.int (btw ls i j))) ∨
    (forL (gTup [3, 4, 5]) (sIf (asB (e2 eqD (eTup (aCons (eVar 3) (aCons (eVar 4) aNil))) (eTup (aCons (e2 min2D (eVarW 1) (eVarW 2)) (aCons (e2 max2D (eVarW 1) (eVarW 2)) aNil))))) (sRet (eVar 5)) sNx) (ls.map encL) [Y, some (.dat (.int i)), some (.dat (.int j)), s3, s4, s5]
      = some (.nx [Y, some (.dat (.int i)), some (.dat (.int j)), s3', s4', s5']) ∧ btw ls i j = 0)
  | [], s3, s4, s5 => ⟨s3, s4, s5, .inr ⟨rfl, rfl⟩⟩
  | l :: ls, s3, s4, s5 => by
    obtain ⟨s3', s4', s5', ih⟩ := lp_between Y i j ls (some (.dat (.int l.1))) (some (.dat (.int l.2.1))) (some (.dat (.int l.2.2)))
    by_cases h : l.1 = min i j ∧ l.2.1 = max i j
    · refine ⟨s3', s4', s5', .inl ?_⟩
      simp [encL, forL, min2_eq, max2_eq, h, btw]
    · refine ⟨s3', s4', s5', ?_⟩
      simp [encL, forL, min2_eq, max2_eq, btw]
      simp only [if_neg h]
      exact ih
theorem ev_between (c : Int) (ls : List Lk) (i j : Int) : Dg.P_between [encY c ls, .int i, .int j] = some (.ok (.int (btw ls i j))) := by
  obtain ⟨s3, s4, s5, h⟩ := lp_between (some (.dat (encY c ls))) i j ls none none none
  have hb : Dg.b_P_between [some (.dat (encY c ls)), some (.dat (.int i)), some (.dat (.int j)), none, none, none] = some (.rt (.int (btw ls i j))) := by
    unfold Dg.b_P_between
    unfold sSeq sFor iSeq
    have h0 : e2 ixD (eVarW 0) (eC (.int 1)) [some (.dat (encY c ls)), some (.dat (.int i)), some (.dat (.int j)), none, none, none] = some (.ok (encLs ls)) := by
      simp [encY]
    rw [h0, bnd_ok]
    simp only [encLs, seqOf, lft_some, bS_ok]
    rcases h with h | ⟨h, h'⟩
    · rw [h]
    · rw [h]
      simp [h']
  unfold Dg.P_between noX runF
  simp [hb, ret]
/-! sizes -/
def sz (ls : List Lk) (p : Int) : Int := ((ls.filter fun l => l.1 == p || l.2.1 == p).map fun l => l.2.2).sum
@[simp] theorem inPair (p a b : Int) : inD (.int p) (.tuple [.int a, .int b]) = some (.bool (a == p || b == p)) := by
  simp [inD, PySem.PyData.plainAll, PySem.PyData.plain, okD, PySem.PyData.depth, PySem.PyData.eqv]
def nums (c : Int) : List Int := (List.range c.toNat).map fun (i : Nat) => (1 : Int) + (i : Int)
theorem rgL_nums (c : Int) : rgL 1 (c + 1) = (nums c).map .int := by
  unfold rgL nums
  have e : (c + 1 - 1).toNat = c.toNat := by omega
  rw [e, List.map_map]
  rfl
theorem rng_nums {c : Int} (h1 : 0 ≤ c) (h2 : c ≤ 100) : rangeD (.int 1) (.int (c + 1)) = some ((nums c).map .int) := by
  have e : (rgOk 1 && rgOk (c + 1)) = true := by
    simp [rgOk]
    omega
  show (if (rgOk 1 && rgOk (c + 1)) = true then some (rgL 1 (c + 1)) else none) = _
  rw [if_pos e, rgL_nums]
theorem foldl_app {α β : Type} (f : α → β) : ∀ (xs : List α) (acc : List β), xs.foldl (fun s x => s ++ [f x]) acc = acc ++ xs.map f
  | [], acc => by simp
  | x :: xs, acc => by
    rw [List.foldl_cons, foldl_app f xs, List.map_cons, List.append_assoc]
    rfl
structure G (c : Int) (ls : List Lk) : Prop where
  c1 : 1 ≤ c
  c2 : c ≤ 100
  l1 : ls.length ≤ 1000
  m1 : ∀ l ∈ ls, 0 ≤ l.2.2 ∧ l.2.2 ≤ 100
def bd_sizes : SF := sApp 1 (e1 sumD (eComp (iSeq (e2 ixD (eVarW 0) (eC (.int 1)))) (gTup [3, 4, 5]) (asB (e2 inD (eVarW 2) (eTup (aCons (eVar 3) (aCons (eVar 4) aNil))))) (eVar 5) [3, 4, 5]))
theorem st_sizes {c : Int} {ls : List Lk} (g : G c ls) (acc : List D) (p : Int) (x y z : Option Sl) (hl : acc.length < 1000000) :
    bd_sizes [some (.dat (encY c ls)), some (.own acc), some (.dat (.int p)), x, y, z] = some (.nx [some (.dat (encY c ls)), some (.own (acc ++ [.int (sz ls p)])), some (.dat (.int p)), x, y, z]) := by
  have hc : compL (gTup [3, 4, 5]) (asB (e2 inD (eVarW 2) (eTup (aCons (eVar 3) (aCons (eVar 4) aNil))))) (eVar 5) [some (.dat (encY c ls)), some (.own acc), some (.dat (.int p)), none, none, none] (ls.map encL) = some (.ok (((ls.filter fun l => l.1 == p || l.2.1 == p)).map fun l => .int l.2.2)) := by
    refine compL_map encL _ (fun l => l.1 == p || l.2.1 == p) (fun l => .int l.2.2) ls fun l hl => ⟨[some (.dat (encY c ls)), some (.own acc), some (.dat (.int p)), some (.dat (.int l.1)), some (.dat (.int l.2.1)), some (.dat (.int l.2.2))], ?_, ?_, ?_⟩
    · simp [encL]
    · simp
    · intro _
      simp
  have hm : ((ls.filter fun l => l.1 == p || l.2.1 == p).map fun l => PyData.int l.2.2) = ((ls.filter fun l => l.1 == p || l.2.1 == p).map fun l => l.2.2).map .int := by
    rw [List.map_map]
    rfl
  have hlen : ls.length ≤ 1000000 := by have := g.l1; omega
  unfold bd_sizes
  simp [encY, encLs] at hc ⊢
  rw [if_pos hlen, hc]
  simp only [bnd_ok]
  rw [hm, ev_sum]
  simp [hl, sz]
theorem ev_sizes {c : Int} {ls : List Lk} (g : G c ls) : Dg.P_sizes [encY c ls] = some (.ok (encG ((nums c).map (sz ls)))) := by
  refine runF_ok rfl ?_
  show Dg.b_P_sizes [some (.dat (encY c ls)), none, none, none, none, none] = _
  have hn : (nums c).length ≤ 100 := by
    unfold nums
    rw [List.length_map, List.length_range]
    have := g.c2
    omega
  have hl := forL_pre (g := gName 2) (b := bd_sizes) PyData.int (fun pre => [some (.dat (encY c ls)), some (.own (pre.map fun p => .int (sz ls p))), pre.getLast?.map fun p => .dat (.int p), none, none, none]) (nums c) [] (by
    intro pr x po hp
    have hpl : pr.length < (nums c).length := by
      rw [List.nil_append] at hp
      rw [hp, List.length_append, List.length_cons]
      omega
    refine ⟨_, rfl, ?_⟩
    have := st_sizes g (pr.map fun p => .int (sz ls p)) x none none none (by rw [List.length_map]; omega)
    simpa using this)
  have e0 : e2 addD (e2 ixD (eVarW 0) (eC (.int 0))) (eC (.int 1)) [some (.dat (encY c ls)), some (.own []), none, none, none, none] = some (.ok (.int (c + 1))) := by
    simp [encY]
  unfold Dg.b_P_sizes
  have hc1 := g.c1
  simp only [ev_sSeq, ev_sOwn, ev_lst, ev_aNil, bnd_ok, List.length_nil, Nat.zero_le, if_true, ev_ret, bS_ok, List.set_cons_succ, List.set_cons_zero, ev_sFor, ev_iRng2, ev_c]
  rw [e0]
  simp only [bnd_ok]
  rw [rng_nums (by omega) g.c2]
  simp only [lft_some, bS_ok]
  have hl' := hl
  simp only [List.map_nil, List.nil_append, List.getLast?_nil, Option.map_none] at hl'
  show (match forL (gName 2) bd_sizes (List.map PyData.int (nums c)) _ with
    | some (.nx ρ') => sRet (e1 tupD (eVarW 1)) ρ'
    | x => x) = _
  rw [hl']
  simp [encG]
end Pe

set_option maxHeartbeats 4400000
namespace Pe
open Dn
open PySem (PyData)
/-! vectors over the places -/
def encF (c : Int) (f : Int → Int) : D := encG ((nums c).map f)
theorem mem_nums {c p : Int} : p ∈ nums c ↔ 1 ≤ p ∧ p ≤ c := by
  unfold nums
  rw [List.mem_map]
  constructor
  · rintro ⟨i, hi, rfl⟩
    rw [List.mem_range] at hi
    omega
  · rintro ⟨h1, h2⟩
    exact ⟨(p - 1).toNat, List.mem_range.mpr (by omega), by omega⟩
theorem nums_get {c p : Int} (h : p ∈ nums c) : (nums c)[(p - 1).toNat]? = some p := by
  obtain ⟨h1, h2⟩ := mem_nums.mp h
  unfold nums
  rw [List.getElem?_map, List.getElem?_range (by omega)]
  have e : (1 : Int) + (((p - 1).toNat : Nat) : Int) = p := by omega
  show some ((1 : Int) + (((p - 1).toNat : Nat) : Int)) = some p
  rw [e]
theorem nums_len (c : Int) : (nums c).length = c.toNat := by
  unfold nums
  rw [List.length_map, List.length_range]
theorem ixF {c p : Int} (f : Int → Int) (h : p ∈ nums c) : ixD (encF c f) (.int (p - 1)) = some (.int (f p)) := by
  have hg : ((nums c).map f)[(p - 1).toNat]? = some (f p) := by
    rw [List.getElem?_map, nums_get h]
    rfl
  have h2 := ev_ixG hg
  obtain ⟨h1, _⟩ := mem_nums.mp h
  have e : (((p - 1).toNat : Nat) : Int) = p - 1 := by omega
  rw [e] at h2
  exact h2
theorem sum_bound {b : Int} (hb : 0 ≤ b) : ∀ {ns : List Int}, (∀ n ∈ ns, 0 ≤ n ∧ n ≤ b) → 0 ≤ ns.sum ∧ ns.sum ≤ b * ns.length
  | [], _ => by simp
  | n :: ns, h => by
    have ih := sum_bound hb (ns := ns) fun m hm => h m (List.mem_cons_of_mem _ hm)
    have hn := h n List.mem_cons_self
    rw [List.sum_cons, List.length_cons]
    have e : b * ((ns.length + 1 : Nat) : Int) = b * ns.length + b := by
      rw [Int.natCast_add, Int.mul_add]
      simp
    omega
theorem sz_bound {c : Int} {ls : List Lk} (g : G c ls) (p : Int) : 0 ≤ sz ls p ∧ sz ls p ≤ 100000 := by
  unfold sz
  have h := sum_bound (b := 100) (by decide) (ns := (ls.filter fun l => l.1 == p || l.2.1 == p).map fun l => l.2.2) fun n hn => by
    obtain ⟨l, hl, rfl⟩ := List.mem_map.mp hn
    exact g.m1 l (List.mem_filter.mp hl).1
  have h2 : ((ls.filter fun l => l.1 == p || l.2.1 == p).map fun l => l.2.2).length ≤ 1000 := by
    rw [List.length_map]
    exact Nat.le_trans (List.length_filter_le _ _) g.l1
  omega
theorem btw_bound : ∀ {ls : List Lk}, (∀ l ∈ ls, 0 ≤ l.2.2 ∧ l.2.2 ≤ 100) → ∀ i j, 0 ≤ btw ls i j ∧ btw ls i j ≤ 100
  | [], _, _, _ => by simp [btw]
  | l :: ls, h, i, j => by
    unfold btw
    split
    · exact h l List.mem_cons_self
    · exact btw_bound (fun l hl => h l (List.mem_cons_of_mem _ hl)) i j
theorem mulD_small {a b : Int} (h : -(2 ^ 64) < b ∧ b < 2 ^ 64) : mulD (.int a) (.int b) = some (.int (a * b)) := by
  have e : smallI b = true := by
    unfold smallI
    rw [decide_eq_true h.1, decide_eq_true h.2]
    rfl
  show (if (smallI a || smallI b) = true then some (PyData.int (a * b)) else none) = _
  rw [if_pos (by rw [e, Bool.or_true])]
/-! forced -/
def fo (c : Int) (ls : List Lk) (g t : Int → Int) (p : Int) : Int :=
  (nums c).foldl (fun left o => if o = p then left else left + t o * btw ls p o) (g p - t p * sz ls p)
end Pe

set_option maxHeartbeats 4400000
namespace Pe
open Dn
open PySem (PyData)
/-! rests -/
theorem zip_map {α : Type} (f h : α → D) : ∀ xs : List α, zipL (xs.map f) (xs.map h) = xs.map fun x => .tuple [f x, h x]
  | [] => rfl
  | x :: xs => by
    rw [List.map_cons, List.map_cons, List.map_cons]
    show _ :: zipL _ _ = _
    rw [zip_map f h xs]
theorem zip_F (c : Int) (f h : Int → Int) : zipD (encF c f) (encF c h) = some ((nums c).map fun p => .tuple [.int (f p), .int (h p)]) := by
  unfold encF encG
  rw [List.map_map, List.map_map]
  show some _ = _
  rw [zip_map]
  rfl
def rst (c : Int) (ls : List Lk) (g : Int → Int) : Bool := (nums c).all fun p => decide (g p < sz ls p)
theorem nums_small {c : Int} {ls : List Lk} (k : G c ls) : (nums c).length ≤ 1000000 := by
  rw [nums_len]
  have := k.c2
  omega
theorem ev_rests {c : Int} {ls : List Lk} (k : G c ls) (g : Int → Int) : Dg.P_rests [encY c ls, encF c g] = some (.ok (.bool (rst c ls g))) := by
  refine runF_ok rfl ?_
  show Dg.b_P_rests [some (.dat (encY c ls)), some (.dat (encF c g)), none, none] = _
  unfold Dg.b_P_rests
  have hc := compL_all (g := gTup [2, 3]) (f := e2 ltD (eVarW 2) (eVarW 3)) (fun p => PyData.tuple [.int (g p), .int (sz ls p)]) [some (.dat (encY c ls)), some (.dat (encF c g)), none, none] (fun p => .bool (decide (g p < sz ls p))) (nums c) (fun p hp => ⟨[some (.dat (encY c ls)), some (.dat (encF c g)), some (.dat (.int (g p))), some (.dat (.int (sz ls p)))], by simp, by simp⟩)
  have hm : ((nums c).map fun p => PyData.bool (decide (g p < sz ls p))) = ((nums c).map fun p => decide (g p < sz ls p)).map .bool := by
    rw [List.map_map]
    rfl
  have hz := zip_F c g (sz ls)
  have hz' : zipD (encF c g) (encG ((nums c).map (sz ls))) = some ((nums c).map fun p => .tuple [.int (g p), .int (sz ls p)]) := hz
  have hlen : (nums c).length ≤ 1000000 := nums_small k
  simp [ev_sizes k, hz', hlen]
  rw [hc]
  simp only [bnd_ok]
  rw [hm, ev_all]
  simp [rst]

/-! ### the mathematics of tumbling -/
def sumN (c : Int) (f : Int → Int) : Int := ((nums c).map f).sum
theorem sum_map_add (f h : Int → Int) : ∀ xs : List Int, (xs.map fun x => f x + h x).sum = (xs.map f).sum + (xs.map h).sum
  | [] => rfl
  | x :: xs => by
    rw [List.map_cons, List.map_cons, List.map_cons, List.sum_cons, List.sum_cons, List.sum_cons, sum_map_add f h xs]
    omega
theorem sum_map_mul (k : Int) (f : Int → Int) : ∀ xs : List Int, (xs.map fun x => k * f x).sum = k * (xs.map f).sum
  | [] => by simp
  | x :: xs => by
    rw [List.map_cons, List.map_cons, List.sum_cons, List.sum_cons, sum_map_mul k f xs, Int.mul_add]
theorem sum_map_le (f h : Int → Int) : ∀ xs : List Int, (∀ x ∈ xs, f x ≤ h x) → (xs.map f).sum ≤ (xs.map h).sum
  | [], _ => Int.le_refl _
  | x :: xs, k => by
    rw [List.map_cons, List.map_cons, List.sum_cons, List.sum_cons]
    have := k x List.mem_cons_self
    have := sum_map_le f h xs fun y hy => k y (List.mem_cons_of_mem _ hy)
    omega
theorem sum_map_lt (f h : Int → Int) : ∀ xs : List Int, (∀ x ∈ xs, f x ≤ h x) → (∃ x ∈ xs, f x < h x) → (xs.map f).sum < (xs.map h).sum
  | [], _, ⟨x, hx, _⟩ => by cases hx
  | x :: xs, k, ⟨y, hy, hlt⟩ => by
    rw [List.map_cons, List.map_cons, List.sum_cons, List.sum_cons]
    have h1 := k x List.mem_cons_self
    have h2 := sum_map_le f h xs fun y hy => k y (List.mem_cons_of_mem _ hy)
    rcases List.mem_cons.mp hy with rfl | hy
    · omega
    · have := sum_map_lt f h xs (fun y hy => k y (List.mem_cons_of_mem _ hy)) ⟨y, hy, hlt⟩
      omega
theorem sum_map_congr (f h : Int → Int) : ∀ xs : List Int, (∀ x ∈ xs, f x = h x) → (xs.map f).sum = (xs.map h).sum := fun xs k => by
  rw [List.map_congr_left k]
theorem sum_map_nonneg (f : Int → Int) (xs : List Int) (k : ∀ x ∈ xs, 0 ≤ f x) : 0 ≤ (xs.map f).sum := by
  have := sum_map_le (fun _ => 0) f xs k
  have e : (xs.map fun _ => (0 : Int)).sum = 0 := by
    induction xs with
    | nil => rfl
    | cons x xs ih =>
      rw [List.map_cons, List.sum_cons, ih (fun y hy => k y (List.mem_cons_of_mem _ hy)) (sum_map_le (fun _ => 0) f xs fun y hy => k y (List.mem_cons_of_mem _ hy))]
      rfl
  omega
theorem foldl_sum (f : Int → Int) (p : Int → Prop) [DecidablePred p] : ∀ (xs : List Int) (a : Int), xs.foldl (fun left o => if p o then left else left + f o) a = a + (xs.map fun o => if p o then 0 else f o).sum
  | [], a => by simp
  | x :: xs, a => by
    rw [List.foldl_cons, foldl_sum f p xs, List.map_cons, List.sum_cons]
    split <;> omega
/-- what comes in from the others -/
def inc (c : Int) (ls : List Lk) (t : Int → Int) (p : Int) : Int := sumN c fun o => if o = p then 0 else t o * btw ls p o
theorem fo_eq (c : Int) (ls : List Lk) (g t : Int → Int) (p : Int) : fo c ls g t p = g p - t p * sz ls p + inc c ls t p := by
  unfold fo inc sumN
  exact foldl_sum (fun o => t o * btw ls p o) (fun o => o = p) _ _
theorem inc_add (c : Int) (ls : List Lk) (t u : Int → Int) (p : Int) : inc c ls (fun o => t o + u o) p = inc c ls t p + inc c ls u p := by
  unfold inc sumN
  rw [← sum_map_add]
  refine sum_map_congr _ _ _ fun o _ => ?_
  show (if o = p then 0 else (t o + u o) * btw ls p o) = (if o = p then 0 else t o * btw ls p o) + (if o = p then 0 else u o * btw ls p o)
  split
  · rfl
  · exact Int.add_mul _ _ _
theorem inc_mul (c : Int) (ls : List Lk) (k : Int) (t : Int → Int) (p : Int) : inc c ls (fun o => k * t o) p = k * inc c ls t p := by
  unfold inc sumN
  rw [← sum_map_mul]
  refine sum_map_congr _ _ _ fun o _ => ?_
  show (if o = p then 0 else k * t o * btw ls p o) = k * (if o = p then 0 else t o * btw ls p o)
  split
  · rw [Int.mul_zero]
  · exact Int.mul_assoc _ _ _
theorem inc_congr {c : Int} {ls : List Lk} {t u : Int → Int} {p : Int} (h : ∀ o ∈ nums c, t o = u o) : inc c ls t p = inc c ls u p := by
  unfold inc sumN
  refine sum_map_congr _ _ _ fun o ho => ?_
  show (if o = p then 0 else t o * btw ls p o) = (if o = p then 0 else u o * btw ls p o)
  rw [h o ho]
theorem inc_nonneg {c : Int} {ls : List Lk} (k : G c ls) {t : Int → Int} (p : Int) (h : ∀ o ∈ nums c, 0 ≤ t o) : 0 ≤ inc c ls t p := by
  refine sum_map_nonneg _ _ fun o ho => ?_
  show 0 ≤ (if o = p then 0 else t o * btw ls p o)
  split
  · exact Int.le_refl _
  · exact Int.mul_nonneg (h o ho) (btw_bound k.m1 p o).1
theorem fo_add (c : Int) (ls : List Lk) (g t u : Int → Int) (p : Int) : fo c ls g (fun o => t o + u o) p = fo c ls (fo c ls g t) u p := by
  rw [fo_eq, fo_eq, fo_eq, inc_add, Int.add_mul]
  omega
theorem fo_congr {c : Int} {ls : List Lk} {g g' t u : Int → Int} {p : Int} (hp : p ∈ nums c) (hg : g p = g' p) (h : ∀ o ∈ nums c, t o = u o) : fo c ls g t p = fo c ls g' u p := by
  rw [fo_eq, fo_eq, inc_congr h, hg, h p hp]
theorem fo_zero (c : Int) (ls : List Lk) (g : Int → Int) (p : Int) : fo c ls g (fun _ => 0) p = g p := by
  have := inc_mul c ls 0 (fun _ => 0) p
  simp only [Int.zero_mul, Int.mul_zero] at this
  rw [fo_eq, this]
  omega
/-- a yard whose tumbling ends -/
structure Y (c : Int) (ls : List Lk) : Prop extends G c ls where
  s1 : ∀ p ∈ nums c, 1 ≤ sz ls p
  pot : ∃ h : Int → Int, (∀ p ∈ nums c, 0 ≤ h p) ∧ ∀ p ∈ nums c, inc c ls h p + 1 ≤ h p * sz ls p
/-- times that bring to rest -/
def Stab (c : Int) (ls : List Lk) (g t : Int → Int) : Prop := (∀ p ∈ nums c, 0 ≤ t p) ∧ ∀ p ∈ nums c, fo c ls g t p < sz ls p
theorem lap {c : Int} {ls : List Lk} (k : Y c ls) {g u s t : Int → Int} (hu : ∀ p ∈ nums c, u p ≤ t p) (hs : ∀ p ∈ nums c, s p * sz ls p ≤ fo c ls g u p) (ht : ∀ p ∈ nums c, fo c ls g t p < sz ls p) :
    ∀ p ∈ nums c, u p + s p ≤ t p := fun p hp => by
  have e : fo c ls g t p = fo c ls (fo c ls g u) (fun o => t o - u o) p := by
    rw [← fo_add]
    exact fo_congr hp rfl fun o _ => by omega
  have h1 := ht p hp
  rw [e, fo_eq] at h1
  have h2 := inc_nonneg k.toG p (t := fun o => t o - u o) fun o ho => by have := hu o ho; show 0 ≤ t o - u o; omega
  have h3 := hs p hp
  have h4 := k.s1 p hp
  by_cases hc : u p + s p ≤ t p
  · exact hc
  · have h5 : t p - u p + 1 ≤ s p := by omega
    have h6 : (t p - u p + 1) * sz ls p ≤ s p * sz ls p := Int.mul_le_mul_of_nonneg_right h5 (by omega)
    rw [Int.add_mul, Int.one_mul] at h6
    omega
theorem stab_ex {c : Int} {ls : List Lk} (k : Y c ls) (g : Int → Int) : ∃ t, Stab c ls g t := by
  obtain ⟨h, h0, h1⟩ := k.pot
  have hm : ∀ p ∈ nums c, max (g p) 0 ≤ sumN c fun o => max (g o) 0 := by
    unfold sumN
    intro p hp
    have : ∀ xs : List Int, p ∈ xs → max (g p) 0 ≤ (xs.map fun o => max (g o) 0).sum := fun xs => by
      induction xs with
      | nil => intro h; cases h
      | cons x xs ih =>
        intro h
        rw [List.map_cons, List.sum_cons]
        have hn := sum_map_nonneg (fun o => max (g o) 0) xs fun o _ => Int.le_max_right _ _
        rcases List.mem_cons.mp h with rfl | h
        · omega
        · have := ih h
          have := Int.le_max_right (g x) 0
          omega
    exact this _ hp
  refine ⟨fun p => (sumN c fun o => max (g o) 0) * h p, fun p hp => Int.mul_nonneg (by have := hm p hp; omega) (h0 p hp), fun p hp => ?_⟩
  rw [fo_eq, inc_mul]
  have h2 := h1 p hp
  have h3 := hm p hp
  have h4 := k.s1 p hp
  have h5 : (sumN c fun o => max (g o) 0) * (inc c ls h p + 1) ≤ (sumN c fun o => max (g o) 0) * (h p * sz ls p) := Int.mul_le_mul_of_nonneg_left h2 (by omega)
  rw [Int.mul_add, Int.mul_one] at h5
  rw [Int.mul_assoc]
  omega
structure Odo (c : Int) (ls : List Lk) (g u : Int → Int) : Prop where
  st : Stab c ls g u
  nn : ∀ p ∈ nums c, 0 ≤ fo c ls g u p
  le : ∀ t, Stab c ls g t → ∀ p ∈ nums c, u p ≤ t p
theorem Odo.uniq {c : Int} {ls : List Lk} {g u v : Int → Int} (a : Odo c ls g u) (b : Odo c ls g v) : ∀ p ∈ nums c, u p = v p := fun p hp =>
  Int.le_antisymm (a.le v b.st p hp) (b.le u a.st p hp)
theorem encF_congr {c : Int} {f h : Int → Int} (e : ∀ p ∈ nums c, f p = h p) : encF c f = encF c h := by
  unfold encF
  rw [List.map_congr_left e]
def encI (c : Int) (u : Int → Int) : D := .list ((nums c).map fun p => .int (u p))
theorem zip_I (c : Int) (f h : Int → Int) : zipD (encI c f) (encI c h) = some ((nums c).map fun p => .tuple [.int (f p), .int (h p)]) := by
  show some _ = _
  rw [zip_map]
end Pe

set_option maxHeartbeats 4400000
namespace Pe
open Dn
open PySem (PyData)
theorem sum_lt {c : Int} {f h : Int → Int} (h1 : ∀ p ∈ nums c, f p ≤ h p) (h2 : ∃ p ∈ nums c, f p < h p) : sumN c f < sumN c h := sum_map_lt f h _ h1 h2
theorem repL_one {α : Type} (x : α) : ∀ n : Nat, repL n [x] = List.replicate n x
  | 0 => rfl
  | n + 1 => by
    have ih := repL_one x n
    unfold repL at ih ⊢
    rw [List.replicate_succ, List.flatten_cons, ih]
    rfl
theorem enc0 (c : Int) : PyData.list (repL c.toNat [PyData.int 0]) = encI c fun _ => 0 := by
  unfold encI
  rw [repL_one]
  have : (nums c).map (fun _ => PyData.int 0) = List.replicate (nums c).length (PyData.int 0) := List.map_const' ..
  rw [this, nums_len]
theorem tupI (c : Int) (f : Int → Int) : tupD (encI c f) = some (encF c f) := by
  show some _ = some _
  unfold encF encG
  rw [List.map_map]
  rfl
end Pe

set_option maxHeartbeats 4400000
namespace Pe
open Dn
open PySem (PyData)
/-! ### settling first -/
theorem Odo.congr {c : Int} {ls : List Lk} {g g' u u' : Int → Int} (h : ∀ p ∈ nums c, g p = g' p) (hu : ∀ p ∈ nums c, u p = u' p) (a : Odo c ls g u) : Odo c ls g' u' := by
  refine ⟨⟨fun p hp => ?_, fun p hp => ?_⟩, fun p hp => ?_, fun t ht p hp => ?_⟩
  · rw [← hu p hp]
    exact a.st.1 p hp
  · rw [← fo_congr hp (h p hp) hu]
    exact a.st.2 p hp
  · rw [← fo_congr hp (h p hp) hu]
    exact a.nn p hp
  · rw [← hu p hp]
    refine a.le t ⟨ht.1, fun q hq => ?_⟩ p hp
    rw [fo_congr hq (h q hq) fun _ _ => rfl]
    exact ht.2 q hq
theorem fo_plus (c : Int) (ls : List Lk) (g h t : Int → Int) (p : Int) : fo c ls (fun p => g p + h p) t p = fo c ls g t p + h p := by
  rw [fo_eq, fo_eq]
  omega
theorem Odo.then {c : Int} {ls : List Lk} {g h u v : Int → Int} (hh : ∀ p ∈ nums c, 0 ≤ h p) (a : Odo c ls g u) (b : Odo c ls (fun p => fo c ls g u p + h p) v) : Odo c ls (fun p => g p + h p) fun p => u p + v p := by
  have e : ∀ w, fo c ls (fun p => g p + h p) (fun p => u p + w p) = fo c ls (fun p => fo c ls g u p + h p) w := fun w => by
    funext p
    rw [fo_add]
    have : fo c ls (fun p => g p + h p) u = fun p => fo c ls g u p + h p := funext fun q => fo_plus c ls g h u q
    rw [this]
  refine ⟨⟨fun p hp => ?_, fun p hp => ?_⟩, fun p hp => ?_, fun t ht p hp => ?_⟩
  · have := a.st.1 p hp
    have := b.st.1 p hp
    show 0 ≤ u p + v p
    omega
  · rw [e]
    exact b.st.2 p hp
  · rw [e]
    exact b.nn p hp
  · have h1 : ∀ q ∈ nums c, u q ≤ t q := a.le t ⟨ht.1, fun q hq => by
      have := ht.2 q hq
      rw [fo_plus] at this
      have := hh q hq
      omega⟩
    have h2 := b.le (fun q => t q - u q) ⟨fun q hq => by have := h1 q hq; show 0 ≤ t q - u q; omega, fun q hq => by
      have := ht.2 q hq
      rw [← e]
      have e2 : (fun p => u p + (t p - u p)) = t := funext fun p => by omega
      rw [e2]
      exact this⟩ p hp
    show u p + v p ≤ t p
    have h2' : v p ≤ t p - u p := h2
    omega
def EqP (c : Int) (f h : Int → Int) : Prop := ∀ p ∈ nums c, f p = h p
def NN (c : Int) (f : Int → Int) : Prop := ∀ p ∈ nums c, 0 ≤ f p
theorem NN.add {c : Int} {f h : Int → Int} (a : NN c f) (b : NN c h) : NN c fun p => f p + h p := fun p hp => by
  have := a p hp
  have := b p hp
  show 0 ≤ f p + h p
  omega
theorem EqP.symm {c : Int} {f h : Int → Int} (a : EqP c f h) : EqP c h f := fun p hp => (a p hp).symm
theorem EqP.trans {c : Int} {f h k : Int → Int} (a : EqP c f h) (b : EqP c h k) : EqP c f k := fun p hp => (a p hp).trans (b p hp)
theorem EqP.add {c : Int} {f h f' h' : Int → Int} (a : EqP c f f') (b : EqP c h h') : EqP c (fun p => f p + h p) fun p => f' p + h' p := fun p hp => by
  show f p + h p = f' p + h' p
  rw [a p hp, b p hp]
theorem EqP.rfl {c : Int} {f : Int → Int} : EqP c f f := fun _ _ => _root_.rfl
/-! equality of data -/
theorem plainG : ∀ g : List Int, PyData.plainAll (g.map .int) = true
  | [] => rfl
  | n :: g => by
    rw [List.map_cons]
    simp [PyData.plainAll, PyData.plain, plainG g]
theorem depthG : ∀ g : List Int, PyData.depthAll (g.map .int) = 0
  | [] => rfl
  | n :: g => by
    rw [List.map_cons]
    simp [PyData.depthAll, PyData.depth, depthG g]
theorem eqvG : ∀ g : List Int, PyData.eqvAll (g.map .int) (g.map .int) = true
  | [] => rfl
  | n :: g => by
    rw [List.map_cons]
    simp [PyData.eqvAll, PyData.eqv, eqvG g]
theorem okF (c : Int) (f : Int → Int) : okD (encF c f) = true := by
  unfold okD encF encG
  simp [-List.map_map, PyData.plain, PyData.depth, plainG, depthG]
theorem eqvF (c : Int) (f : Int → Int) : PyData.eqv (encF c f) (encF c f) = true := by
  unfold encF encG
  simp [-List.map_map, PyData.eqv, eqvG]
theorem eqF {c : Int} {f h : Int → Int} (e : EqP c f h) : eqD (encF c f) (encF c h) = some (.bool true) := by
  rw [← encF_congr e]
  unfold eqD
  rw [okF, eqvF]
  rfl
theorem neF {c : Int} {f h : Int → Int} (e : EqP c f h) : neD (encF c f) (encF c h) = some (.bool false) := by
  rw [← encF_congr e]
  unfold neD
  rw [okF, eqvF]
  rfl
theorem eqF2 {c : Int} {f h f' h' : Int → Int} (e : EqP c f f') (e' : EqP c h h') : eqD (.tuple [encF c f, encF c h]) (.tuple [encF c f', encF c h']) = some (.bool true) := by
  rw [← encF_congr e, ← encF_congr e']
  unfold eqD
  have : okD (.tuple [encF c f, encF c h]) = true := by
    have h1 := okF c f
    have h2 := okF c h
    unfold okD at h1 h2 ⊢
    simp [PyData.plain, PyData.plainAll, PyData.depth, PyData.depthAll] at h1 h2 ⊢
    simp [-List.map_map, encF, encG, PyData.plain, PyData.depth, plainG, depthG]
  rw [this]
  simp [PyData.eqv, PyData.eqvAll, eqvF]
end Pe

set_option maxHeartbeats 4400000
namespace Pe
open Dn
open PySem (PyData)
/-! ### the draws -/
@[simp] theorem modI {a b : Int} (h : 0 < b) : modD (.int a) (.int b) = some (.int (a % b)) := if_pos h
def dr0 (n k : Int) : Int := ((n + 104729 * k + 17) * 69621) % 2147483647
def dr (n k : Int) : Int := (dr0 n k * dr0 n k + 3 * dr0 n k + k) % 2147483629
theorem dr_bd (n k : Int) : 0 ≤ dr n k ∧ dr n k < 2147483629 := by
  unfold dr
  exact ⟨Int.emod_nonneg _ (by decide), Int.emod_lt_of_pos _ (by decide)⟩
theorem dr0_bd (n k : Int) : 0 ≤ dr0 n k ∧ dr0 n k < 2147483647 := by
  unfold dr0
  exact ⟨Int.emod_nonneg _ (by decide), Int.emod_lt_of_pos _ (by decide)⟩
theorem mul_l {a b : Int} (h : -(2 ^ 64) < a ∧ a < 2 ^ 64) : mulD (.int a) (.int b) = some (.int (a * b)) := by
  have e : smallI a = true := by
    unfold smallI
    rw [decide_eq_true h.1, decide_eq_true h.2]
    rfl
  show (if (smallI a || smallI b) = true then some (PyData.int (a * b)) else none) = _
  rw [if_pos (by rw [e, Bool.true_or])]
theorem ev_drawn (n k : Int) : Dg.L_drawn [.int n, .int k] = some (.ok (.int (dr n k))) := by
  refine runF_ok rfl ?_
  show Dg.b_L_drawn [some (.dat (.int n)), some (.dat (.int k)), none] = _
  have h := dr0_bd n k
  unfold Dg.b_L_drawn
  simp only [ev_sSeq, ev_sAsg, ev_e2, ev_varW, ev_var, ev_c, List.getElem?_cons_succ, List.getElem?_cons_zero, ev_ret, bnd_ok, mul_l (a := 104729) (b := k) (by decide), ev_addI, lft_some, mulD_small (a := n + 104729 * k + 17) (b := 69621) (by decide), modI (a := (n + 104729 * k + 17) * 69621) (b := 2147483647) (by decide), bS_ok, ev_gName, Option.map_some, List.set_cons_succ, List.set_cons_zero]
  show sRet _ [some (.dat (.int n)), some (.dat (.int k)), some (.dat (.int (dr0 n k)))] = _
  simp only [ev_sRet, ev_e2, ev_varW, ev_var, ev_c, List.getElem?_cons_succ, List.getElem?_cons_zero, ev_ret, bnd_ok, mul_l (a := 3) (b := dr0 n k) (by decide), mulD_small (a := dr0 n k) (b := dr0 n k) (by omega), ev_addI, lft_some, modI (a := dr0 n k * dr0 n k + 3 * dr0 n k + k) (b := 2147483629) (by decide), bS_ok]
  rfl
theorem ev_cell (ns : List Int) (k : Nat) : ∃ v, Dg.L_cell_at [.list (ns.map .int), .int k] = some (.ok (.int v)) := by
  have hb : ∃ v : Int, Dg.b_L_cell_at [some (.dat (.list (ns.map .int))), some (.dat (.int k))] = some (.rt (.int v)) := by
    unfold Dg.b_L_cell_at
    by_cases h : k < ns.length
    · refine ⟨ns[k], ?_⟩
      have hx : ixD (.list (ns.map .int)) (.int k) = some (.int ns[k]) := by
        simp [ixD, ixNat, h]
      have hi : (k : Int) < (ns.length : Int) := by omega
      simp [lenD, hi, hx]
    · refine ⟨0, ?_⟩
      have hi : ¬ (k : Int) < (ns.length : Int) := by omega
      simp [lenD, hi]
  obtain ⟨v, h⟩ := hb
  exact ⟨v, runF_ok rfl h⟩
theorem ev_mixed (ns : List Int) (k : Nat) : ∃ v, Dg.L_mixed [.list (ns.map .int), .int k] = some (.ok (.int v)) ∧ 0 ≤ v ∧ v < 2147483629 := by
  obtain ⟨w, hw⟩ := ev_cell ns k
  generalize hd : ((w + 7919 * (k : Int) + 1) * 48271) % 2147483647 = d
  have h0 : 0 ≤ d ∧ d < 2147483647 := by
    subst hd
    exact ⟨Int.emod_nonneg _ (by decide), Int.emod_lt_of_pos _ (by decide)⟩
  refine ⟨(d * d + 7 * d + k) % 2147483629, runF_ok rfl ?_, Int.emod_nonneg _ (by decide), Int.emod_lt_of_pos _ (by decide)⟩
  show Dg.b_L_mixed [some (.dat (.list (ns.map .int))), some (.dat (.int k)), none] = _
  unfold Dg.b_L_mixed
  simp only [ev_sSeq, ev_sAsg, ev_e2, ev_varW, ev_var, ev_c, ev_call, ev_aCons, ev_aNil, hw, List.getElem?_cons_succ, List.getElem?_cons_zero, ev_ret, bnd_ok, mul_l (a := 7919) (b := k) (by decide), ev_addI, lft_some, mulD_small (a := w + 7919 * k + 1) (b := 48271) (by decide), modI (a := (w + 7919 * k + 1) * 48271) (b := 2147483647) (by decide), bS_ok, ev_gName, Option.map_some, List.set_cons_succ, List.set_cons_zero]
  rw [hd]
  simp only [ev_sRet, ev_e2, ev_varW, ev_var, ev_c, List.getElem?_cons_succ, List.getElem?_cons_zero, ev_ret, bnd_ok, mul_l (a := 7) (b := d) (by decide), mulD_small (a := d) (b := d) (by omega), ev_addI, lft_some, modI (a := d * d + 7 * d + k) (b := 2147483629) (by decide), bS_ok]
theorem rgL0 (c : Int) : rgL 0 c = (nums c).map fun p => .int (p - 1) := by
  unfold rgL nums
  rw [Int.sub_zero, List.map_map]
  refine List.map_congr_left fun i _ => ?_
  show PyData.int (0 + (i : Int)) = PyData.int (1 + (i : Int) - 1)
  congr 1
  omega
theorem rng0 {c : Int} (h1 : 0 ≤ c) (h2 : c ≤ 100) : rangeD (.int 0) (.int c) = some ((nums c).map fun p => .int (p - 1)) := by
  have e : (rgOk 0 && rgOk c) = true := by
    simp [rgOk]
    omega
  show (if (rgOk 0 && rgOk c) = true then some (rgL 0 c) else none) = _
  rw [if_pos e, rgL0]
def grn (n most p : Int) : Int := dr n (50 + (p - 1)) % (most + 1)
theorem ev_grains {c : Int} (h1 : 0 ≤ c) (h2 : c ≤ 100) (n : Int) {most : Int} (hm : 0 ≤ most) : Dg.L_grains [.int n, .int c, .int most] = some (.ok (encF c (grn n most))) := by
  refine runF_ok rfl ?_
  show Dg.b_L_grains [some (.dat (.int n)), some (.dat (.int c)), some (.dat (.int most)), none] = _
  have hlen : (nums c).length ≤ 1000000 := by rw [nums_len]; omega
  have hpos : 0 < most + 1 := by omega
  have hc := compL_all (g := gName 3) (f := e2 modD (eCall Dg.L_drawn (aCons (eVar 0) (aCons (e2 addD (eC (.int 50)) (eVarW 3)) aNil))) (e2 addD (eVarW 2) (eC (.int 1)))) (fun p => PyData.int (p - 1)) [some (.dat (.int n)), some (.dat (.int c)), some (.dat (.int most)), none] (fun p => .int (grn n most p)) (nums c) (fun p hp => ⟨[some (.dat (.int n)), some (.dat (.int c)), some (.dat (.int most)), some (.dat (.int (p - 1)))], by simp, by simp [ev_drawn, hpos, grn]⟩)
  have e1 : PyData.list ((nums c).map fun p => PyData.int (grn n most p)) = encI c (grn n most) := rfl
  unfold Dg.b_L_grains
  simp only [ev_sRet, ev_e1, ev_comp, ev_iRng1, ev_varW, ev_var, List.getElem?_cons_succ, List.getElem?_cons_zero, ev_ret, bnd_ok, rng0 h1 h2, lft_some, List.length_map, if_pos hlen, ev_wipe0, ev_wipe1, List.set_cons_succ, List.set_cons_zero]
  rw [hc]
  simp only [bnd_ok, e1, tupI, lft_some, bS_ok]
theorem grn_nn (c n : Int) {most : Int} (hm : 0 ≤ most) : NN c (grn n most) := fun p _ => Int.emod_nonneg _ (by omega)
end Pe

set_option maxHeartbeats 4400000
namespace Pe
open Dn
open PySem (PyData)
/-! ### sums over lists -/
section
variable {α : Type}
theorem su_add (f h : α → Int) : ∀ xs : List α, (xs.map fun x => f x + h x).sum = (xs.map f).sum + (xs.map h).sum
  | [] => rfl
  | x :: xs => by
    simp only [List.map_cons, List.sum_cons, su_add f h xs]
    omega
theorem su_mul (k : Int) (f : α → Int) : ∀ xs : List α, (xs.map fun x => k * f x).sum = k * (xs.map f).sum
  | [] => by simp
  | x :: xs => by
    simp only [List.map_cons, List.sum_cons, su_mul k f xs, Int.mul_add]
theorem su_le (f h : α → Int) : ∀ xs : List α, (∀ x ∈ xs, f x ≤ h x) → (xs.map f).sum ≤ (xs.map h).sum
  | [], _ => Int.le_refl _
  | x :: xs, k => by
    have := k x List.mem_cons_self
    have := su_le f h xs fun y hy => k y (List.mem_cons_of_mem _ hy)
    simp only [List.map_cons, List.sum_cons]
    omega
theorem su_perm : ∀ {xs ys : List Int}, xs.Perm ys → xs.sum = ys.sum := fun h => by
  induction h with
  | nil => rfl
  | cons x _ ih => rw [List.sum_cons, List.sum_cons, ih]
  | swap x y l =>
    simp only [List.sum_cons]
    omega
  | trans _ _ i j => exact i.trans j
theorem su_low (f : α → Int) {K : Int} (hK : 0 ≤ K) : ∀ xs : List α, (∀ x ∈ xs, -K ≤ f x) → -(K * xs.length) ≤ (xs.map f).sum
  | [], _ => by simp
  | x :: xs, k => by
    have h1 := k x List.mem_cons_self
    have h2 := su_low f hK xs fun y hy => k y (List.mem_cons_of_mem _ hy)
    rw [List.map_cons, List.sum_cons, List.length_cons]
    have e : K * ((xs.length + 1 : Nat) : Int) = K * xs.length + K := by
      rw [Int.natCast_add, Int.mul_add]
      simp
    omega
theorem su_one (f : α → Int) {K M : Int} (hK : 0 ≤ K) : ∀ xs : List α, (∀ x ∈ xs, -K ≤ f x) → (∃ x ∈ xs, M ≤ f x) → M - K * xs.length ≤ (xs.map f).sum
  | [], _, ⟨x, hx, _⟩ => by cases hx
  | x :: xs, k, ⟨y, hy, hm⟩ => by
    have h1 := k x List.mem_cons_self
    have h2 := su_low f hK xs fun y hy => k y (List.mem_cons_of_mem _ hy)
    rw [List.map_cons, List.sum_cons, List.length_cons]
    have e : K * ((xs.length + 1 : Nat) : Int) = K * xs.length + K := by
      rw [Int.natCast_add, Int.mul_add]
      simp
    rcases List.mem_cons.mp hy with rfl | hy
    · omega
    · have := su_one f hK xs (fun y hy => k y (List.mem_cons_of_mem _ hy)) ⟨y, hy, hm⟩
      omega
end
/-! ### the yard's dict -/
abbrev Ent := Int × Int × Int
def ky (e : Ent) : Int × Int := (e.1, e.2.1)
def ND (es : List Ent) : Prop := (es.map ky).Nodup
def encT (es : List Ent) : List (List Int × D) := es.map fun e => ([e.1, e.2.1], PyData.int e.2.2)
theorem putT_enc (es : List Ent) (a b v : Int) : ∃ es', putT (encT es) [a, b] (.int v) = encT es' ∧ es'.length ≤ es.length + 1 ∧ (∀ e ∈ es', e ∈ es ∨ e = (a, b, v)) ∧ (∃ e ∈ es', e.2.1 = b) ∧ (∀ r, (∃ e ∈ es, e.2.1 = r) → ∃ e ∈ es', e.2.1 = r) ∧ (ND es → ND es') := by
  unfold putT
  by_cases h : (encT es).any (fun kv => decide (kv.1 = [a, b])) = true
  · rw [if_pos h]
    refine ⟨es.map fun e => if e.1 = a ∧ e.2.1 = b then (a, b, v) else e, ?_, by rw [List.length_map]; omega, fun e he => ?_, ?_, fun r ⟨e, he, hr⟩ => ?_, fun hn => ?_⟩
    · unfold encT
      rw [List.map_map, List.map_map]
      refine List.map_congr_left fun e _ => ?_
      show (if [e.1, e.2.1] = [a, b] then ([e.1, e.2.1], PyData.int v) else ([e.1, e.2.1], PyData.int e.2.2)) = _
      by_cases q : e.1 = a ∧ e.2.1 = b
      · have q1 : [e.1, e.2.1] = [a, b] := by rw [q.1, q.2]
        rw [if_pos q1]
        simp only [Function.comp, if_pos q]
        rw [q.1, q.2]
      · have q1 : ¬ [e.1, e.2.1] = [a, b] := fun hq => by
          injection hq with q2 q3
          injection q3 with q3 _
          exact q ⟨q2, q3⟩
        rw [if_neg q1]
        simp only [Function.comp, if_neg q]
    · obtain ⟨e0, h0, rfl⟩ := List.mem_map.mp he
      split
      · exact .inr rfl
      · exact .inl h0
    · obtain ⟨kv, hk, he⟩ := List.any_eq_true.mp h
      unfold encT at hk
      obtain ⟨e, h0, rfl⟩ := List.mem_map.mp hk
      have he := of_decide_eq_true he
      injection he with q2 q3
      injection q3 with q3 _
      refine ⟨_, List.mem_map.mpr ⟨e, h0, rfl⟩, ?_⟩
      rw [if_pos ⟨q2, q3⟩]
    · refine ⟨_, List.mem_map.mpr ⟨e, he, rfl⟩, ?_⟩
      split
      · rename_i q
        rw [← hr, q.2]
      · exact hr
    · unfold ND at hn ⊢
      rw [List.map_map]
      have : es.map (ky ∘ fun e => if e.1 = a ∧ e.2.1 = b then (a, b, v) else e) = es.map ky := List.map_congr_left fun e _ => by
        show ky (if e.1 = a ∧ e.2.1 = b then (a, b, v) else e) = ky e
        split
        · rename_i q
          show (a, b) = (e.1, e.2.1)
          rw [q.1, q.2]
        · rfl
      rw [this]
      exact hn
  · rw [if_neg h]
    refine ⟨es ++ [(a, b, v)], ?_, by rw [List.length_append, List.length_singleton]; omega, fun e he => ?_, ⟨(a, b, v), List.mem_append_right _ List.mem_cons_self, rfl⟩, fun r ⟨e, he, hr⟩ => ⟨e, List.mem_append_left _ he, hr⟩, fun hn => ?_⟩
    · unfold encT
      rw [List.map_append]
      rfl
    · rcases List.mem_append.mp he with h1 | h1
      · exact .inl h1
      · exact .inr (List.mem_singleton.mp h1)
    · unfold ND at hn ⊢
      rw [List.map_append, List.nodup_append]
      refine ⟨hn, by simp, fun x hx y hy q => ?_⟩
      rw [List.map_singleton, List.mem_singleton] at hy
      obtain ⟨e, he, rfl⟩ := List.mem_map.mp hx
      rw [hy] at q
      apply h
      refine List.any_eq_true.mpr ⟨([e.1, e.2.1], .int e.2.2), List.mem_map.mpr ⟨e, he, rfl⟩, ?_⟩
      have q1 : e.1 = a := congrArg Prod.fst q
      have q2 : e.2.1 = b := congrArg Prod.snd q
      rw [q1, q2]
      simp
theorem getT_enc : ∀ (es : List Ent) {e : Ent}, e ∈ es → ∃ e' ∈ es, getT (encT es) [e.1, e.2.1] = some (.int e'.2.2)
  | [], _, h => by cases h
  | e0 :: es, e, h => by
    by_cases q : [e0.1, e0.2.1] = [e.1, e.2.1]
    · refine ⟨e0, List.mem_cons_self, ?_⟩
      unfold getT encT
      rw [List.map_cons, List.find?_cons_of_pos (by simpa using q)]
      rfl
    · have hm : e ∈ es := by
        rcases List.mem_cons.mp h with rfl | h
        · exact absurd rfl q
        · exact h
      obtain ⟨e', h1, h2⟩ := getT_enc es hm
      refine ⟨e', List.mem_cons_of_mem _ h1, ?_⟩
      unfold getT encT at h2 ⊢
      rw [List.map_cons, List.find?_cons_of_neg (by simpa using q)]
      exact h2
/-! ### a yard's tumbling ends -/
def oth (l : Lk) (p : Int) : Int := if l.1 = p then l.2.1 else l.1
theorem ind_le {q x : Int} (hx : 0 ≤ x) : ∀ xs : List Int, xs.Nodup → (xs.map fun o => if o = q then x else 0).sum ≤ x
  | [], _ => by simpa using hx
  | y :: xs, h => by
    rw [List.nodup_cons] at h
    rw [List.map_cons, List.sum_cons]
    by_cases e : y = q
    · rw [if_pos e]
      have : (xs.map fun o => if o = q then x else 0) = xs.map fun _ => 0 := List.map_congr_left fun o ho => by
        rw [if_neg]
        rintro rfl
        rw [e] at h
        exact h.1 ho
      rw [this]
      have : (xs.map fun _ => (0 : Int)).sum = 0 := by
        have := su_mul (0 : Int) (fun _ : Int => 0) xs
        simp only [Int.zero_mul] at this
        exact this
      omega
    · rw [if_neg e]
      have := ind_le (q := q) hx xs h.2
      omega
theorem nums_nodup (c : Int) : (nums c).Nodup := by
  unfold nums
  rw [List.nodup_iff_pairwise_ne, List.pairwise_map]
  refine List.Pairwise.imp ?_ List.nodup_range
  intro a b h e
  exact h (by omega)
theorem btw_cons (l : Lk) (r : List Lk) (i j : Int) : btw (l :: r) i j = if l.1 = min i j ∧ l.2.1 = max i j then l.2.2 else btw r i j := rfl
theorem inc_le {c : Int} {h : Int → Int} (hh : ∀ o, 0 ≤ h o) (p : Int) : ∀ ls : List Lk, (∀ l ∈ ls, l.1 < l.2.1 ∧ 0 ≤ l.2.2 ∧ l.2.2 ≤ 100) → inc c ls h p ≤ ((ls.filter fun l => l.1 == p || l.2.1 == p).map fun l => h (oth l p) * l.2.2).sum
  | [], _ => by
    unfold inc sumN
    have : ((nums c).map fun o => if o = p then 0 else h o * btw [] p o) = (nums c).map fun _ => 0 := List.map_congr_left fun o _ => by
      show (if o = p then 0 else h o * 0) = 0
      rw [Int.mul_zero]
      split <;> rfl
    rw [this]
    have := su_mul (0 : Int) (fun _ : Int => 0) (nums c)
    simp only [Int.zero_mul] at this
    rw [this]
    exact Int.le_refl _
  | l :: r, k => by
    have ih := inc_le (c := c) hh p r fun l hl => k l (List.mem_cons_of_mem _ hl)
    have kl := k l List.mem_cons_self
    have hb := fun o => btw_bound (ls := r) (fun l hl => (k l (List.mem_cons_of_mem _ hl)).2) p o
    by_cases hi : l.1 = p ∨ l.2.1 = p
    · have e : (l.1 == p || l.2.1 == p) = true := by simpa using hi
      rw [List.filter_cons_of_pos (by simpa using hi), List.map_cons, List.sum_cons]
      have hx : 0 ≤ h (oth l p) * l.2.2 := Int.mul_nonneg (hh _) kl.2.1
      have h1 : inc c (l :: r) h p ≤ (((nums c).map fun o => (if o = p then 0 else h o * btw r p o) + (if o = oth l p then h (oth l p) * l.2.2 else 0))).sum := by
        unfold inc sumN
        refine su_le _ _ _ fun o _ => ?_
        by_cases ho : o = p
        · rw [if_pos ho, if_pos ho]
          split <;> omega
        · rw [if_neg ho, if_neg ho]
          rw [btw_cons]
          by_cases hq : l.1 = min p o ∧ l.2.1 = max p o
          · rw [if_pos hq]
            have : o = oth l p := by
              unfold oth
              split <;> omega
            rw [if_pos this, ← this]
            have := Int.mul_nonneg (hh o) (hb o).1
            omega
          · rw [if_neg hq]
            split <;> omega
      rw [su_add] at h1
      have h2 := ind_le (q := oth l p) hx (nums c) (nums_nodup c)
      unfold inc sumN at ih
      omega
    · rw [List.filter_cons_of_neg (by simpa using hi)]
      have h1 : inc c (l :: r) h p = inc c r h p := by
        unfold inc sumN
        refine congrArg List.sum (List.map_congr_left fun o _ => ?_)
        by_cases ho : o = p
        · rw [if_pos ho, if_pos ho]
        · rw [if_neg ho, if_neg ho]
          have hq : ¬ (l.1 = min p o ∧ l.2.1 = max p o) := by omega
          have : btw (l :: r) p o = btw r p o := if_neg hq
          rw [this]
      omega
/-- what makes a yard: ranks -/
theorem mkY {c : Int} {ls : List Lk} (rk : Int → Int) (h1 : 1 ≤ c) (h2 : c ≤ 100) (hl : ls.length ≤ 1000) (hm : ∀ l ∈ ls, l.1 < l.2.1 ∧ 1 ≤ l.2.2 ∧ l.2.2 ≤ 100)
    (hr : ∀ o, 0 ≤ rk o ∧ rk o ≤ c) (hp : ∀ p ∈ nums c, ∃ l ∈ ls, (l.1 = p ∨ l.2.1 = p) ∧ rk (oth l p) < rk p) : Y c ls := by
  have hin : ∀ p ∈ nums c, ∃ l ∈ ls.filter (fun l => l.1 == p || l.2.1 == p), rk (oth l p) < rk p := fun p h => by
    obtain ⟨l, h3, h4, h5⟩ := hp p h
    exact ⟨l, List.mem_filter.mpr ⟨h3, by simpa using h4⟩, h5⟩
  have hfl : ∀ p, (ls.filter (fun l => l.1 == p || l.2.1 == p)).length ≤ 1000 := fun p => Nat.le_trans (List.length_filter_le _ _) hl
  have hfm : ∀ p, ∀ l ∈ ls.filter (fun l => l.1 == p || l.2.1 == p), 1 ≤ l.2.2 ∧ l.2.2 ≤ 100 := fun p l h => (hm l (List.mem_filter.mp h).1).2
  refine { c1 := h1, c2 := h2, l1 := hl, m1 := fun l h => ⟨by have := hm l h; omega, (hm l h).2.2⟩, s1 := fun p h => ?_, pot := ?_ }
  · obtain ⟨l, h3, _⟩ := hin p h
    have := su_one (fun l : Lk => l.2.2) (K := 0) (M := 1) (Int.le_refl _) _ (fun l h => by have := hfm p l h; omega) ⟨l, h3, (hfm p l h3).1⟩
    unfold sz
    omega
  · let W : Int → Int := fun i => ((100002 ^ (c.toNat - i.toNat) : Nat) : Int)
    have W1 : ∀ i, 1 ≤ W i := fun i => by
      have : 0 < 100002 ^ (c.toNat - i.toNat) := Nat.pow_pos (by decide)
      show (1 : Int) ≤ ((100002 ^ (c.toNat - i.toNat) : Nat) : Int)
      omega
    have W2 : ∀ i, W i ≤ W 0 := fun i => by
      have : 100002 ^ (c.toNat - i.toNat) ≤ 100002 ^ (c.toNat - (0 : Int).toNat) := Nat.pow_le_pow_right (by decide) (by omega)
      exact Int.ofNat_le.mpr this
    have W3 : ∀ i j, 0 ≤ i → i < j → j ≤ c → 100002 * W j ≤ W i := fun i j a b d => by
      have e : 100002 * 100002 ^ (c.toNat - j.toNat) = 100002 ^ (c.toNat - j.toNat + 1) := by rw [Nat.pow_succ, Nat.mul_comm]
      have : 100002 ^ (c.toNat - j.toNat + 1) ≤ 100002 ^ (c.toNat - i.toNat) := Nat.pow_le_pow_right (by decide) (by omega)
      rw [← e] at this
      have := Int.ofNat_le.mpr this
      rw [Int.natCast_mul] at this
      exact this
    refine ⟨fun o => W 0 - W (rk o), fun p _ => by have := W2 (rk p); show 0 ≤ W 0 - W (rk p); omega, fun p h => ?_⟩
    have hi := inc_le (c := c) (h := fun o => W 0 - W (rk o)) (fun o => by have := W2 (rk o); show 0 ≤ W 0 - W (rk o); omega) p ls fun l h => ⟨(hm l h).1, by have := hm l h; omega, (hm l h).2.2⟩
    have hX := W1 (rk p)
    have hs := su_one (fun l : Lk => (W (rk (oth l p)) - W (rk p)) * l.2.2) (K := (W (rk p) - 1) * 100) (M := 100001 * W (rk p)) (by omega) (ls.filter fun l => l.1 == p || l.2.1 == p) (fun l h => by
        have hv := hfm p l h
        have hw := W1 (rk (oth l p))
        have a1 : -(W (rk p) - 1) * l.2.2 ≤ (W (rk (oth l p)) - W (rk p)) * l.2.2 := Int.mul_le_mul_of_nonneg_right (by omega) (by omega)
        have a2 : (W (rk p) - 1) * l.2.2 ≤ (W (rk p) - 1) * 100 := Int.mul_le_mul_of_nonneg_left (by omega) (by omega)
        rw [Int.neg_mul] at a1
        show -((W (rk p) - 1) * 100) ≤ (W (rk (oth l p)) - W (rk p)) * l.2.2
        omega) (by
        obtain ⟨l, h3, h4⟩ := hin p h
        refine ⟨l, h3, ?_⟩
        have hv := hfm p l h3
        have hw := W3 (rk (oth l p)) (rk p) (hr _).1 h4 (hr _).2
        have a1 : (W (rk (oth l p)) - W (rk p)) * 1 ≤ (W (rk (oth l p)) - W (rk p)) * l.2.2 := Int.mul_le_mul_of_nonneg_left (by omega) (by omega)
        show 100001 * W (rk p) ≤ (W (rk (oth l p)) - W (rk p)) * l.2.2
        omega)
    have e : (((ls.filter fun l => l.1 == p || l.2.1 == p)).map fun l => (W 0 - W (rk p)) * l.2.2).sum = (W 0 - W (rk p)) * sz ls p := su_mul _ (fun l : Lk => l.2.2) _
    have e2 : (((ls.filter fun l => l.1 == p || l.2.1 == p)).map fun l => (W 0 - W (rk p)) * l.2.2).sum = (((ls.filter fun l => l.1 == p || l.2.1 == p)).map fun l => (W (rk (oth l p)) - W (rk p)) * l.2.2).sum + (((ls.filter fun l => l.1 == p || l.2.1 == p)).map fun l => (W 0 - W (rk (oth l p))) * l.2.2).sum := by
      rw [← su_add]
      refine congrArg List.sum (List.map_congr_left fun l _ => ?_)
      rw [← Int.add_mul]
      congr 1
      omega
    have hk : (W (rk p) - 1) * 100 * ((ls.filter fun l => l.1 == p || l.2.1 == p).length : Int) ≤ (W (rk p) - 1) * 100 * 1000 := Int.mul_le_mul_of_nonneg_left (by have := hfl p; omega) (by omega)
    show inc c ls (fun o => W 0 - W (rk o)) p + 1 ≤ (W 0 - W (rk p)) * sz ls p
    have hi' : inc c ls (fun o => W 0 - W (rk o)) p ≤ (((ls.filter fun l => l.1 == p || l.2.1 == p)).map fun l => (W 0 - W (rk (oth l p))) * l.2.2).sum := hi
    omega
structure Z (c : Int) (ls : List Lk) : Prop extends Y c ls where
  rng : ∀ l ∈ ls, 0 ≤ l.1 ∧ l.1 < l.2.1 ∧ l.2.1 ≤ c
  dis : ND ls
end Pe

set_option maxHeartbeats 4400000
namespace Pe
open Dn
open PySem (PyData)
theorem forL_I {α : Type} {g : GF} {b : SF} (enc : α → D) (I : List α → Dn.Env → Prop) : ∀ (post pre : List α) (ρ : Dn.Env), I pre ρ → (∀ pr x po ρ, pre ++ post = pr ++ x :: po → I pr ρ → ∃ ρ1 ρ2, g (enc x) ρ = some ρ1 ∧ b ρ1 = some (.nx ρ2) ∧ I (pr ++ [x]) ρ2) →
    ∃ ρ', forL g b (post.map enc) ρ = some (.nx ρ') ∧ I (pre ++ post) ρ'
  | [], pre, ρ, i, _ => ⟨ρ, rfl, by rw [List.append_nil]; exact i⟩
  | x :: post, pre, ρ, i, h => by
    obtain ⟨ρ1, ρ2, h1, h2, i2⟩ := h pre x post ρ rfl i
    have e : pre ++ x :: post = (pre ++ [x]) ++ post := by simp
    rw [e] at h
    obtain ⟨ρ', h3, h4⟩ := forL_I enc I post (pre ++ [x]) ρ2 i2 h
    refine ⟨ρ', ?_, by rw [e]; exact h4⟩
    rw [List.map_cons]
    unfold forL
    rw [h1]
    simp only
    rw [h2]
    simp only
    exact h3
abbrev dm (t : Option D) : Option Sl := t.map Sl.dat
def yS (n m w c : Int) (s4 : Option Sl) (t5 t6 t7 t8 t9 t10 : Option D) (s11 : Option Sl) (t12 t13 : Option D) : Dn.Env :=
  [some (.dat (.int n)), some (.dat (.int m)), some (.dat (.int w)), some (.dat (.int c)), s4, dm t5, dm t6, dm t7, dm t8, dm t9, dm t10, s11, dm t12, dm t13]
def KE (c w : Int) (es : List Ent) : Prop := ∀ e ∈ es, 0 ≤ e.1 ∧ e.1 < e.2.1 ∧ e.2.1 ≤ c ∧ 1 ≤ e.2.2 ∧ e.2.2 ≤ w
noncomputable def bd_y1 : SF := (Dn.sDictSet 4 (Dn.e2 Dn.modD (Dn.eCall Dg.L_drawn (Dn.aCons (Dn.eVar 0) (Dn.aCons (Dn.eVar 5) Dn.aNil))) (Dn.eVarW 5)) (Dn.eVarW 5) (Dn.e2 Dn.addD (Dn.eC (.int 1)) (Dn.e2 Dn.modD (Dn.eCall Dg.L_drawn (Dn.aCons (Dn.eVar 0) (Dn.aCons (Dn.e2 Dn.addD (Dn.eC (.int 10)) (Dn.eVarW 5)) Dn.aNil))) (Dn.eVarW 2))))
theorem KE.put {c w : Int} {es es' : List Ent} (k : KE c w es) {a b v : Int} (h : 0 ≤ a ∧ a < b ∧ b ≤ c ∧ 1 ≤ v ∧ v ≤ w) (h2 : ∀ e ∈ es', e ∈ es ∨ e = (a, b, v)) : KE c w es' := fun e he => by
  rcases h2 e he with h3 | rfl
  · exact k e h3
  · exact h
theorem bd_of {w x : Int} (hw : 1 ≤ w) (v : Int) : 1 ≤ 1 + v % w ∧ 1 + v % w ≤ w := by
  have h1 := Int.emod_nonneg v (b := w) (by omega)
  have h2 := Int.emod_lt_of_pos v (b := w) (by omega)
  omega
theorem encT_len (es : List Ent) : (encT es).length = es.length := List.length_map ..
def I1 (n m w c : Int) (pre : List Int) (ρ : Dn.Env) : Prop := ∃ (es : List Ent) (t5 : Option D), ρ = yS n m w c (some (.ownT (encT es))) t5 none none none none none none none none ∧ es.length ≤ pre.length ∧ KE c w es ∧ ND es ∧ ∀ r ∈ pre, ∃ e ∈ es, e.2.1 = r
theorem lp_y1 {n m w c : Int} (hc : c ≤ 100) (hw : 1 ≤ w) : ∃ ρ', forL (gName 5) bd_y1 ((nums c).map .int) (yS n m w c (some (.ownT [])) none none none none none none none none none) = some (.nx ρ') ∧ I1 n m w c (nums c) ρ' := by
  have hl : (nums c).length ≤ 100 := by rw [nums_len]; omega
  refine forL_I PyData.int (I1 n m w c) (nums c) [] _ ⟨[], none, rfl, Nat.le_refl _, (fun e he => by cases he), List.nodup_nil, (fun r hr => by cases hr)⟩ ?_
  rintro pr x po ρ hp ⟨es, t5, rfl, h1, h2, hnd, h3⟩
  rw [List.nil_append] at hp
  have hx : x ∈ nums c := by
    rw [hp]
    simp
  have hpl : pr.length < (nums c).length := by
    rw [hp, List.length_append, List.length_cons]
    omega
  have hx' := mem_nums.mp hx
  obtain ⟨es', e1, e2, e3, e4, e5, e6⟩ := putT_enc es (dr n x % x) x (1 + dr n (10 + x) % w)
  refine ⟨_, yS n m w c (some (.ownT (encT es'))) (some (.int x)) none none none none none none none none, rfl, ?_, es', some (.int x), rfl, ?_, ?_, e6 hnd, ?_⟩
  · have hpos : 0 < x := by omega
    have hwp : 0 < w := by omega
    have hlt : es.length < 1000 := by omega
    simp [bd_y1, yS, dm, sDictSet, ev_drawn, hpos, hwp, encT_len, hlt, e1]
  · rw [List.length_append, List.length_singleton]
    omega
  · exact h2.put ⟨Int.emod_nonneg _ (by omega), Int.emod_lt_of_pos _ (by omega), hx'.2, bd_of (x := x) hw _⟩ e3
  · intro r hr
    rcases List.mem_append.mp hr with hr | hr
    · exact e5 r (h3 r hr)
    · rw [List.mem_singleton.mp hr]
      exact e4
noncomputable def bd_y2 : SF := (Dn.sSeq (Dn.sAsg (Dn.gName 7) (Dn.e2 Dn.modD (Dn.eCall Dg.L_drawn (Dn.aCons (Dn.eVar 0) (Dn.aCons (Dn.e2 Dn.addD (Dn.eC (.int 20)) (Dn.eVarW 6)) Dn.aNil))) (Dn.e2 Dn.addD (Dn.eVarW 3) (Dn.eC (.int 1)))))
    (Dn.sSeq (Dn.sAsg (Dn.gName 8) (Dn.e2 Dn.modD (Dn.eCall Dg.L_drawn (Dn.aCons (Dn.eVar 0) (Dn.aCons (Dn.e2 Dn.addD (Dn.eC (.int 30)) (Dn.eVarW 6)) Dn.aNil))) (Dn.e2 Dn.addD (Dn.eVarW 3) (Dn.eC (.int 1)))))
    (Dn.sIf (Dn.asB (Dn.e2 Dn.ltD (Dn.eVarW 7) (Dn.eVarW 8))) (Dn.sDictSet 4 (Dn.eVarW 7) (Dn.eVarW 8) (Dn.e2 Dn.addD (Dn.eC (.int 1)) (Dn.e2 Dn.modD (Dn.eCall Dg.L_drawn (Dn.aCons (Dn.eVar 0) (Dn.aCons (Dn.e2 Dn.addD (Dn.eC (.int 40)) (Dn.eVarW 6)) Dn.aNil))) (Dn.eVarW 2)))) Dn.sNx)))
def I2 (n m w c : Int) (pre : List Int) (ρ : Dn.Env) : Prop := ∃ (es : List Ent) (t5 t6 t7 t8 : Option D), ρ = yS n m w c (some (.ownT (encT es))) t5 t6 t7 t8 none none none none none ∧ es.length ≤ c.toNat + pre.length ∧ KE c w es ∧ ND es ∧ ∀ r ∈ nums c, ∃ e ∈ es, e.2.1 = r
theorem lp_y2 {n m w c k : Int} (h0 : 0 ≤ c) (hc100 : c ≤ 100) (hk : k ≤ 100) (hw : 1 ≤ w) {ρ : Dn.Env} (i : I2 n m w c [] ρ) : ∃ ρ', forL (gName 6) bd_y2 ((nums k).map fun p => .int (p - 1)) ρ = some (.nx ρ') ∧ I2 n m w c (nums k) ρ' := by
  have hl : (nums k).length ≤ 100 := by rw [nums_len]; omega
  refine forL_I (fun p => PyData.int (p - 1)) (I2 n m w c) (nums k) [] _ i ?_
  rintro pr x po ρ hp ⟨es, t5, t6, t7, t8, rfl, h1, h2, hnd, h3⟩
  rw [List.nil_append] at hp
  have hpl : pr.length < (nums k).length := by
    rw [hp, List.length_append, List.length_cons]
    omega
  have hcp : 0 < c + 1 := by omega
  have hwp : 0 < w := by omega
  have hlt : es.length < 1000 := by omega
  by_cases hlo : dr n (20 + (x - 1)) % (c + 1) < dr n (30 + (x - 1)) % (c + 1)
  · obtain ⟨es', e1, e2, e3, e4, e5, e6⟩ := putT_enc es (dr n (20 + (x - 1)) % (c + 1)) (dr n (30 + (x - 1)) % (c + 1)) (1 + dr n (40 + (x - 1)) % w)
    refine ⟨_, yS n m w c (some (.ownT (encT es'))) t5 (some (.int (x - 1))) (some (.int (dr n (20 + (x - 1)) % (c + 1)))) (some (.int (dr n (30 + (x - 1)) % (c + 1)))) none none none none none, rfl, ?_, es', _, _, _, _, rfl, ?_, ?_, e6 hnd, ?_⟩
    · simp [bd_y2, yS, dm, sDictSet, ev_drawn, hcp, hwp, encT_len, hlt, hlo, e1]
    · rw [List.length_append, List.length_singleton]
      omega
    · have := Int.emod_lt_of_pos (dr n (30 + (x - 1))) hcp
      exact h2.put ⟨Int.emod_nonneg _ (by omega), hlo, by omega, bd_of (x := x) hw _⟩ e3
    · exact fun r hr => e5 r (h3 r hr)
  · refine ⟨_, yS n m w c (some (.ownT (encT es))) t5 (some (.int (x - 1))) (some (.int (dr n (20 + (x - 1)) % (c + 1)))) (some (.int (dr n (30 + (x - 1)) % (c + 1)))) none none none none none, rfl, ?_, es, _, _, _, _, rfl, ?_, h2, hnd, h3⟩
    · simp [bd_y2, yS, dm, sDictSet, ev_drawn, hcp, hwp, encT_len, hlt, hlo]
    · rw [List.length_append, List.length_singleton]
      omega
theorem cut_lo {α : Type} (xs : List α) {k : Nat} (h : k ≤ xs.length) : cutL xs none (some (k : Int)) = xs.take k := by
  unfold cutL sIx
  rw [HT.sIx_none, HT.sIx_nat, List.drop_zero, Nat.sub_zero, Nat.min_eq_left h]
theorem cut_hi {α : Type} (xs : List α) {k : Nat} (h : k ≤ xs.length) : cutL xs (some (k : Int)) none = xs.drop k := by
  unfold cutL sIx
  rw [HT.sIx_none, HT.sIx_nat, Nat.min_eq_left h, List.take_of_length_le]
  rw [List.length_drop]
  exact Nat.le_refl _
noncomputable def bd_y3 : SF := (Dn.sSeq (Dn.sAsg (Dn.gName 10) (Dn.e2 Dn.addD (Dn.eC (.int 1)) (Dn.e2 Dn.modD (Dn.eCall Dg.L_drawn (Dn.aCons (Dn.eVar 0) (Dn.aCons (Dn.e2 Dn.addD (Dn.eC (.int 60)) (Dn.eVarW 5)) Dn.aNil))) (Dn.eVarW 5))))
    (Dn.sAsg (Dn.gName 9) (Dn.e2 Dn.addD (Dn.e2 Dn.addD (Dn.eCut (Dn.eVarW 9) Dn.oNo (Dn.oInt (Dn.eVarW 10))) (Dn.eLst (Dn.aCons (Dn.eVar 5) Dn.aNil))) (Dn.eCut (Dn.eVarW 9) (Dn.oInt (Dn.eVarW 10)) Dn.oNo))))
def I3 (n m w c : Int) (es : List Ent) (t6 t7 t8 : Option D) (pre : List Int) (ρ : Dn.Env) : Prop := ∃ (ms : List Int) (t5 t10 : Option D), ρ = yS n m w c (some (.ownT (encT es))) t5 t6 t7 t8 (some (.list (ms.map .int))) t10 none none none ∧ ms.Perm (0 :: pre) ∧ ms[0]? = some 0
theorem nums_at {c x : Int} {pr po : List Int} (h : nums c = pr ++ x :: po) : x = pr.length + 1 := by
  have h1 : (nums c)[pr.length]? = some x := by
    rw [h, List.getElem?_append_right (Nat.le_refl _), Nat.sub_self]
    rfl
  have h2 : pr.length < c.toNat := by
    have := (List.getElem?_eq_some_iff.mp h1).1
    rw [nums_len] at this
    exact this
  unfold nums at h1
  rw [List.getElem?_map, List.getElem?_range h2] at h1
  have h3 : (1 : Int) + (pr.length : Int) = x := Option.some.inj h1
  omega
theorem lp_y3 {n m w c : Int} {es : List Ent} {t5 t6 t7 t8 : Option D} (hc : c ≤ 100) : ∃ ρ', forL (gName 5) bd_y3 ((nums c).map .int) (yS n m w c (some (.ownT (encT es))) t5 t6 t7 t8 (some (.list [.int 0])) none none none none) = some (.nx ρ') ∧ I3 n m w c es t6 t7 t8 (nums c) ρ' := by
  have hl : (nums c).length ≤ 100 := by rw [nums_len]; omega
  refine forL_I PyData.int (I3 n m w c es t6 t7 t8) (nums c) [] _ ⟨[0], t5, none, rfl, List.Perm.refl _, rfl⟩ ?_
  rintro pr x po ρ hp ⟨ms, t5, t10, rfl, h1, h2⟩
  rw [List.nil_append] at hp
  have hx := nums_at hp
  have hpl : pr.length < (nums c).length := by
    rw [hp, List.length_append, List.length_cons]
    omega
  have hml : ms.length = pr.length + 1 := by rw [h1.length_eq, List.length_cons]
  have hpos : 0 < x := by omega
  obtain ⟨k, hk⟩ : ∃ k : Nat, 1 + dr n (60 + x) % x = (k : Int) := ⟨(1 + dr n (60 + x) % x).toNat, by
    have := Int.emod_nonneg (dr n (60 + x)) (b := x) (by omega)
    omega⟩
  have hkb : 1 ≤ k ∧ k ≤ ms.length := by
    have := Int.emod_nonneg (dr n (60 + x)) (b := x) (by omega)
    have := Int.emod_lt_of_pos (dr n (60 + x)) hpos
    omega
  have ea : PyData.list (ms.map .int |>.take k) = .list ((ms.take k).map .int) := by rw [List.map_take]
  have hz : (ms.take k ++ x :: ms.drop k).length = ms.length + 1 := by
    rw [List.length_append, List.length_cons, List.length_take, List.length_drop]
    omega
  refine ⟨_, yS n m w c (some (.ownT (encT es))) (some (.int x)) t6 t7 t8 (some (.list ((ms.take k ++ x :: ms.drop k).map .int))) (some (.int k)) none none none, rfl, ?_, ms.take k ++ x :: ms.drop k, _, _, rfl, ?_, ?_⟩
  · have a1 : k ≤ (ms.map PyData.int).length := by rw [List.length_map]; exact hkb.2
    have a2 : min k ms.length + 1 ≤ PySem.sizeLine ∧ min k ms.length + 1 + (ms.length - k) ≤ PySem.sizeLine := by
      have : (1000 : Nat) ≤ PySem.sizeLine := by decide
      omega
    simp [bd_y3, yS, dm, ev_drawn, hpos, hk, eCut, oNo, oInt, intOf, cutD, cut_lo _ a1, cut_hi _ a1, addD, a2]
  · have e := List.perm_middle (a := x) (l₁ := ms.take k) (l₂ := ms.drop k)
    rw [List.take_append_drop] at e
    refine e.trans ((List.Perm.cons x h1).trans ?_)
    exact (List.perm_append_singleton x (0 :: pr)).symm
  · rw [List.getElem?_append_left (by rw [List.length_take]; omega), List.getElem?_take_of_lt (by omega)]
    exact h2
end Pe

set_option maxHeartbeats 4400000
namespace Pe
open Dn
open PySem (PyData)
def nm (ms : List Int) (i : Int) : Int := (ms[i.toNat]?).getD 0
def vl (es : List Ent) (e : Ent) : Int := match getT (encT es) [e.1, e.2.1] with
  | some (.int v) => v
  | _ => 0
def lk (ms : List Int) (es : List Ent) (e : Ent) : Lk := (min (nm ms e.1) (nm ms e.2.1), max (nm ms e.1) (nm ms e.2.1), vl es e)
theorem vl_eq {es : List Ent} {e : Ent} (h : e ∈ es) : getT (encT es) [e.1, e.2.1] = some (.int (vl es e)) ∧ ∃ e' ∈ es, vl es e = e'.2.2 := by
  obtain ⟨e', h1, h2⟩ := getT_enc es h
  have : vl es e = e'.2.2 := by
    unfold vl
    rw [h2]
  exact ⟨by rw [this]; exact h2, e', h1, this⟩
theorem nm_ix {ms : List Int} {i : Int} (h0 : 0 ≤ i) (h1 : i < ms.length) : ixD (.list (ms.map .int)) (.int i) = some (.int (nm ms i)) ∧ ms[i.toNat]? = some (nm ms i) := by
  have hl : i.toNat < ms.length := by omega
  have e : ms[i.toNat]? = some (nm ms i) := by
    unfold nm
    rw [List.getElem?_eq_getElem hl]
    rfl
  refine ⟨?_, e⟩
  have e2 := List.getElem?_eq_getElem hl
  rw [e] at e2
  have e2 := Option.some.inj e2
  simp [ixD, ixNat, h0, h1, hl]
  exact e2.symm
noncomputable def bd_y4 : SF := (Dn.sSeq (Dn.sAsg (Dn.gName 12) (Dn.e2 Dn.ixD (Dn.eVarW 9) (Dn.eVarW 7)))
    (Dn.sSeq (Dn.sAsg (Dn.gName 13) (Dn.e2 Dn.ixD (Dn.eVarW 9) (Dn.eVarW 8)))
    (Dn.sApp 11 (Dn.eTup (Dn.aCons (Dn.e2 Dn.min2D (Dn.eVarW 12) (Dn.eVarW 13)) (Dn.aCons (Dn.e2 Dn.max2D (Dn.eVarW 12) (Dn.eVarW 13)) (Dn.aCons (Dn.eDictGet 4 (Dn.eVarW 7) (Dn.eVarW 8)) Dn.aNil)))))))
theorem lp_y4 {n m w c : Int} {es : List Ent} {ms : List Int} {t5 t6 t7 t8 t10 : Option D} (k : KE c w es) (hm : (ms.length : Int) = c + 1) (hes : es.length ≤ 1000) :
    ∃ a7 a8 t12 t13, forL (gTup [7, 8]) bd_y4 (es.map fun e => .tuple [.int e.1, .int e.2.1]) (yS n m w c (some (.frzT (encT es))) t5 t6 t7 t8 (some (.list (ms.map .int))) t10 (some (.own [])) none none)
      = some (.nx (yS n m w c (some (.frzT (encT es))) t5 t6 a7 a8 (some (.list (ms.map .int))) t10 (some (.own ((es.map (lk ms es)).map encL))) t12 t13)) := by
  obtain ⟨ρ', h, t7', t8', t12, t13, rfl⟩ := forL_I (g := gTup [7, 8]) (b := bd_y4) (fun e : Ent => PyData.tuple [.int e.1, .int e.2.1]) (fun (pre : List Ent) (ρ : Dn.Env) => ∃ t7 t8 t12 t13, ρ = yS n m w c (some (.frzT (encT es))) t5 t6 t7 t8 (some (.list (ms.map .int))) t10 (some (.own ((pre.map (lk ms es)).map encL))) t12 t13) es [] _ ⟨t7, t8, none, none, rfl⟩ (by
    rintro pr e po ρ hp ⟨t7, t8, t12, t13, rfl⟩
    rw [List.nil_append] at hp
    have he : e ∈ es := by
      rw [hp]
      simp
    have hpl : pr.length < es.length := by
      rw [hp, List.length_append, List.length_cons]
      omega
    have ke := k e he
    have n1 := (nm_ix (ms := ms) (i := e.1) (by omega) (by omega)).1
    have n2 := (nm_ix (ms := ms) (i := e.2.1) (by omega) (by omega)).1
    have v1 := (vl_eq he).1
    refine ⟨_, yS n m w c (some (.frzT (encT es))) t5 t6 (some (.int e.1)) (some (.int e.2.1)) (some (.list (ms.map .int))) t10 (some (.own (((pr ++ [e]).map (lk ms es)).map encL))) (some (.int (nm ms e.1))) (some (.int (nm ms e.2.1))), rfl, ?_, _, _, _, _, rfl⟩
    have hlt : pr.length < 1000000 := by omega
    simp [bd_y4, yS, dm, n1, n2, min2_eq, max2_eq, eDictGet, v1, hlt, lk, encL])
  exact ⟨t7', t8', t12, t13, h⟩
/-! sorted -/
theorem depthL : ∀ L : List Lk, PyData.depthAll (L.map encL) ≤ 2
  | [] => by simp [PyData.depthAll]
  | l :: L => by
    rw [List.map_cons]
    have ih := depthL L
    simp [PyData.depthAll, PyData.depth, encL]
    omega
theorem sortOk_L {L : List Lk} (h : L.length ≤ 1000) : sortOk (L.map encL) = true := by
  unfold sortOk
  have h1 := depthL L
  simp [h, encL, PySem.W.alike, PySem.W.alikeAll]
  have : PyData.depthAll (L.map fun l => PyData.tuple [.int l.1, .int l.2.1, .int l.2.2]) ≤ 50 := Nat.le_trans h1 (by decide)
  exact this
def dec : D → Lk
  | .tuple [.int a, .int b, .int v] => (a, b, v)
  | _ => (0, 0, 0)
theorem dec_enc (l : Lk) : dec (encL l) = l := rfl
theorem ev_sort {L : List Lk} (h : L.length ≤ 1000) : ∃ ls : List Lk, sortD (.list (L.map encL)) = some (.list (ls.map encL)) ∧ ls.Perm L := by
  have hp : (sortL (L.map encL)).Perm (L.map encL) := List.mergeSort_perm _ _
  refine ⟨(sortL (L.map encL)).map dec, ?_, ?_⟩
  · show (if sortOk (L.map encL) = true then some (PyData.list (sortL (L.map encL))) else none) = _
    rw [if_pos (sortOk_L h), List.map_map]
    congr 2
    have : (sortL (L.map encL)).map (encL ∘ dec) = (sortL (L.map encL)).map id := List.map_congr_left fun y hy => by
      obtain ⟨l, _, rfl⟩ := List.mem_map.mp (hp.mem_iff.mp hy)
      show encL (dec (encL l)) = _
      rw [dec_enc]
      rfl
    rw [this, List.map_id]
  · have h2 := hp.map dec
    rw [List.map_map] at h2
    have : L.map (dec ∘ encL) = L.map id := List.map_congr_left fun l _ => dec_enc l
    rw [this, List.map_id] at h2
    exact h2
theorem mk_yard {c w : Int} {es : List Ent} {ms : List Int} {ls : List Lk} (h1 : 1 ≤ c) (h2 : c ≤ 100) (hw : w ≤ 100) (k : KE c w es) (hnd : ND es) (hes : es.length ≤ 1000) (hpar : ∀ r ∈ nums c, ∃ e ∈ es, e.2.1 = r)
    (hms : ms.Perm (0 :: nums c)) (h0 : ms[0]? = some 0) (hl : ls.Perm (es.map (lk ms es))) : Z c ls := by
  have hmd : ms.Nodup := hms.nodup_iff.mpr (List.nodup_cons.mpr ⟨fun h => by have := mem_nums.mp h; omega, nums_nodup c⟩)
  have hlen : (ms.length : Int) = c + 1 := by
    rw [hms.length_eq, List.length_cons, nums_len]
    omega
  let rk : Int → Int := fun o => if o ∈ ms then (ms.idxOf o : Nat) else 0
  have rk_nm : ∀ i, 0 ≤ i → i ≤ c → rk (nm ms i) = i := fun i a b => by
    have e := (nm_ix (ms := ms) (i := i) a (by omega)).2
    have hm : nm ms i ∈ ms := List.mem_of_getElem? e
    show (if nm ms i ∈ ms then ((ms.idxOf (nm ms i) : Nat) : Int) else 0) = i
    rw [if_pos hm]
    have e2 : ms[ms.idxOf (nm ms i)]? = some (nm ms i) := by
      rw [List.getElem?_eq_getElem (List.idxOf_lt_length_of_mem hm), List.getElem_idxOf]
    have hj : ms.idxOf (nm ms i) = i.toNat := (List.getElem?_inj (List.idxOf_lt_length_of_mem hm) hmd).mp (by rw [e2, e])
    omega
  have ne : ∀ e ∈ es, nm ms e.1 ≠ nm ms e.2.1 := fun e he q => by
    have ke := k e he
    have a := rk_nm e.1 (by omega) (by omega)
    rw [q, rk_nm e.2.1 (by omega) (by omega)] at a
    omega
  have hy : Y c ls := by
    refine mkY rk h1 h2 (by rw [hl.length_eq, List.length_map]; exact hes) (fun l hl' => ?_) (fun o => ?_) (fun p hp => ?_)
    · obtain ⟨e, he, rfl⟩ := List.mem_map.mp (hl.mem_iff.mp hl')
      obtain ⟨_, e', h3, h4⟩ := vl_eq he
      have := k e' h3
      have := ne e he
      refine ⟨?_, ?_, ?_⟩
      · show min (nm ms e.1) (nm ms e.2.1) < max (nm ms e.1) (nm ms e.2.1)
        omega
      · show 1 ≤ vl es e
        omega
      · show vl es e ≤ 100
        omega
    · show 0 ≤ (if o ∈ ms then ((ms.idxOf o : Nat) : Int) else 0) ∧ (if o ∈ ms then ((ms.idxOf o : Nat) : Int) else 0) ≤ c
      split
      · rename_i hm
        have := List.idxOf_lt_length_of_mem hm
        omega
      · omega
    · have hm : p ∈ ms := hms.mem_iff.mpr (List.mem_cons_of_mem _ hp)
      have hlt := List.idxOf_lt_length_of_mem hm
      have e2 : ms[ms.idxOf p]? = some p := by
        rw [List.getElem?_eq_getElem hlt, List.getElem_idxOf]
      have hr0 : ms.idxOf p ≠ 0 := fun q => by
        rw [q, h0] at e2
        have := Option.some.inj e2
        have := mem_nums.mp hp
        omega
      obtain ⟨e, he, hre⟩ := hpar ((ms.idxOf p : Nat) : Int) (mem_nums.mpr ⟨by omega, by omega⟩)
      have ke := k e he
      have hnp : nm ms e.2.1 = p := by
        unfold nm
        rw [hre, Int.toNat_natCast, e2]
        rfl
      have hne := ne e he
      have r1 := rk_nm e.1 (by omega) (by omega)
      have r2 := rk_nm e.2.1 (by omega) (by omega)
      rw [hnp] at hne r2
      refine ⟨lk ms es e, hl.mem_iff.mpr (List.mem_map.mpr ⟨e, he, rfl⟩), ?_, ?_⟩
      · show min (nm ms e.1) (nm ms e.2.1) = p ∨ max (nm ms e.1) (nm ms e.2.1) = p
        rw [hnp]
        omega
      · have : oth (lk ms es e) p = nm ms e.1 := by
          show (if min (nm ms e.1) (nm ms e.2.1) = p then max (nm ms e.1) (nm ms e.2.1) else min (nm ms e.1) (nm ms e.2.1)) = nm ms e.1
          rw [hnp]
          split <;> omega
        rw [this, r1, r2]
        omega
  refine ⟨hy, fun l hl' => ?_, ?_⟩
  · obtain ⟨e, he, rfl⟩ := List.mem_map.mp (hl.mem_iff.mp hl')
    have ke := k e he
    have n1 := hms.mem_iff.mp (List.mem_of_getElem? (nm_ix (ms := ms) (i := e.1) (by omega) (by omega)).2)
    have n2 := hms.mem_iff.mp (List.mem_of_getElem? (nm_ix (ms := ms) (i := e.2.1) (by omega) (by omega)).2)
    have b1 : 0 ≤ nm ms e.1 ∧ nm ms e.1 ≤ c := by
      rcases List.mem_cons.mp n1 with q | q
      · omega
      · have := mem_nums.mp q
        omega
    have b2 : 0 ≤ nm ms e.2.1 ∧ nm ms e.2.1 ≤ c := by
      rcases List.mem_cons.mp n2 with q | q
      · omega
      · have := mem_nums.mp q
        omega
    have := ne e he
    refine ⟨?_, ?_, ?_⟩
    · show 0 ≤ min (nm ms e.1) (nm ms e.2.1)
      omega
    · show min (nm ms e.1) (nm ms e.2.1) < max (nm ms e.1) (nm ms e.2.1)
      omega
    · show max (nm ms e.1) (nm ms e.2.1) ≤ c
      omega
  · unfold ND
    refine (hl.map ky).nodup_iff.mpr ?_
    rw [List.map_map]
    unfold ND at hnd
    rw [List.nodup_iff_pairwise_ne, List.pairwise_map] at hnd ⊢
    refine List.Pairwise.imp_of_mem (fun {e f} he hf q r => q ?_) hnd
    have ke := k e he
    have kf := k f hf
    have r1 : min (nm ms e.1) (nm ms e.2.1) = min (nm ms f.1) (nm ms f.2.1) := congrArg Prod.fst r
    have r2 : max (nm ms e.1) (nm ms e.2.1) = max (nm ms f.1) (nm ms f.2.1) := congrArg Prod.snd r
    have inj : ∀ i j, 0 ≤ i → i ≤ c → 0 ≤ j → j ≤ c → nm ms i = nm ms j → i = j := fun i j a b d d' h => by
      have := rk_nm i a b
      rw [h, rk_nm j d d'] at this
      exact this.symm
    have i1 := inj e.1 f.1 (by omega) (by omega) (by omega) (by omega)
    have i2 := inj e.2.1 f.2.1 (by omega) (by omega) (by omega) (by omega)
    have i3 := inj e.1 f.2.1 (by omega) (by omega) (by omega) (by omega)
    have i4 := inj e.2.1 f.1 (by omega) (by omega) (by omega) (by omega)
    have n1 := ne e he
    have n2 := ne f hf
    have : e.1 = f.1 ∧ e.2.1 = f.2.1 := by
      by_cases c1 : nm ms e.1 = nm ms f.1
      · have := i1 c1
        have : nm ms e.2.1 = nm ms f.2.1 := by omega
        have := i2 this
        omega
      · have c2 : nm ms e.1 = nm ms f.2.1 := by omega
        have c3 : nm ms e.2.1 = nm ms f.1 := by omega
        have := i3 c2
        have := i4 c3
        omega
    show (e.1, e.2.1) = (f.1, f.2.1)
    rw [this.1, this.2]
end Pe

set_option maxHeartbeats 4400000
namespace Pe
open Dn
open PySem (PyData)
theorem seq_nx {a b : SF} {ρ ρ' : Dn.Env} (h : a ρ = some (.nx ρ')) : sSeq a b ρ = b ρ' := by
  rw [ev_sSeq, h]
theorem noF_cons (s : Option Sl) (ρ : Dn.Env) : noFrz (s :: ρ) = (noFrz [s] && noFrz ρ) := by
  unfold noFrz
  rw [List.all_cons, List.all_cons, List.all_nil, Bool.and_true]
theorem noF_dm (t : Option D) : noFrz [dm t] = true := by cases t <;> rfl
theorem noF_y (n m w c : Int) (t5 t6 t7 t8 t9 t10 : Option D) (ds : List D) (t12 t13 : Option D) : noFrz (yS n m w c none t5 t6 t7 t8 t9 t10 (some (.own ds)) t12 t13) = true := by
  unfold yS
  rw [noF_cons (some (.dat (.int n))), noF_cons (some (.dat (.int m))), noF_cons (some (.dat (.int w))), noF_cons (some (.dat (.int c))), noF_cons none, noF_cons (dm t5), noF_cons (dm t6), noF_cons (dm t7), noF_cons (dm t8), noF_cons (dm t9), noF_cons (dm t10), noF_cons (some (.own ds)), noF_cons (dm t12)]
  simp only [noF_dm, Bool.and_true]
  rfl
theorem ev_yard3 (n : Int) {m w : Int} (hm : 1 ≤ m ∧ m ≤ 100) (hw : 1 ≤ w ∧ w ≤ 100) : ∃ c ls, (1 ≤ c ∧ c ≤ m ∧ Z c ls ∧ Dg.L_yard [.int n, .int m, .int w] = some (.ok (encY c ls))) ∧ (∀ l ∈ ls, 1 ≤ l.2.2 ∧ l.2.2 ≤ w) ∧ ls.length ≤ c.toNat + 3 ∧ ∃ L, ls.map encL = sortL L := by
  generalize hc : 1 + n % m = c
  have hcb : 1 ≤ c ∧ c ≤ m := by
    rw [← hc]
    exact bd_of (x := n) hm.1 n
  have hc100 : c ≤ 100 := by omega
  generalize hk : n / 7 % 4 = k
  have hkb : 0 ≤ k ∧ k ≤ 100 := by
    have h1 := Int.emod_nonneg (n / 7) (b := 4) (by decide)
    have h2 := Int.emod_lt_of_pos (n / 7) (b := 4) (by decide)
    omega
  have hmp : 0 < m := by omega
  obtain ⟨ρ1, y1, es1, t5, rfl, l1, k1, d1, p1⟩ := lp_y1 (n := n) (m := m) (w := w) (c := c) hc100 hw.1
  have hn : (nums c).length ≤ 100 := by rw [nums_len]; omega
  obtain ⟨ρ2, y2, es, a5, a6, a7, a8, rfl, l2, k2, d2, p2⟩ := lp_y2 (n := n) (m := m) (w := w) (c := c) (k := k) (by omega) hc100 hkb.2 hw.1 ⟨es1, t5, none, none, none, rfl, by rw [nums_len] at l1; simp; omega, k1, d1, p1⟩
  have hkn : (nums k).length ≤ 100 := by rw [nums_len]; omega
  obtain ⟨ρ3, y3, ms, b5, b10, rfl, hms, h0⟩ := lp_y3 (n := n) (m := m) (w := w) (c := c) (es := es) (t5 := a5) (t6 := a6) (t7 := a7) (t8 := a8) hc100
  have hlen : (ms.length : Int) = c + 1 := by
    rw [hms.length_eq, List.length_cons, nums_len]
    omega
  have hes : es.length ≤ 1000 := by omega
  obtain ⟨a7', a8', t12, t13, y4⟩ := lp_y4 (n := n) (m := m) (w := w) (c := c) (es := es) (ms := ms) (t5 := b5) (t6 := a6) (t7 := a7) (t8 := a8) (t10 := b10) k2 hlen hes
  obtain ⟨ls, hs, hperm⟩ := ev_sort (L := es.map (lk ms es)) (by rw [List.length_map]; exact hes)
  refine ⟨c, ls, ⟨hcb.1, hcb.2, mk_yard hcb.1 hc100 hw.2 k2 d2 hes p2 hms h0 hperm, runF_ok rfl ?_⟩, fun l hl => ?_, ?_, es.map (lk ms es) |>.map encL, ?_⟩
  rotate_left
  · obtain ⟨e, he, rfl⟩ := List.mem_map.mp (hperm.mem_iff.mp hl)
    obtain ⟨e', he', hv⟩ := (vl_eq he).2
    have := k2 e' he'
    show 1 ≤ vl es e ∧ vl es e ≤ w
    rw [hv]
    omega
  · rw [hperm.length_eq, List.length_map]
    have h2 := Int.emod_lt_of_pos (n / 7) (b := 4) (by decide)
    have l3 := nums_len k
    omega
  · have h := hs
    change (if sortOk ((es.map (lk ms es)).map encL) = true then some (PyData.list (sortL ((es.map (lk ms es)).map encL))) else none) = _ at h
    split at h
    · injection h with h
      injection h with h
      exact h.symm
    · cases h
  show Dg.b_L_yard [some (.dat (.int n)), some (.dat (.int m)), some (.dat (.int w)), none, none, none, none, none, none, none, none, none, none, none] = _
  have q1 : iRng2 (eC (.int 1)) (e2 addD (eVarW 3) (eC (.int 1))) (yS n m w c (some (.ownT [])) none none none none none none none none none) = some (.ok ((nums c).map .int)) := by
    simp [yS, rng_nums (c := c) (by omega) hc100]
  have q2 : iRng1 (e2 modD (e2 fdivD (eVarW 0) (eC (.int 7))) (eC (.int 4))) (yS n m w c (some (.ownT (encT es1))) t5 none none none none none none none none) = some (.ok ((nums k).map fun p => .int (p - 1))) := by
    have e : fdivD (.int n) (.int 7) = some (.int (n / 7)) := rfl
    simp [yS, e, hk, rng0 hkb.1 hkb.2]
  have q3 : iRng2 (eC (.int 1)) (e2 addD (eVarW 3) (eC (.int 1))) (yS n m w c (some (.ownT (encT es))) a5 a6 a7 a8 (some (.list [.int 0])) none none none none) = some (.ok ((nums c).map .int)) := by
    simp [yS, rng_nums (c := c) (by omega) hc100]
  unfold Dg.b_L_yard
  rw [seq_nx (ρ' := yS n m w c none none none none none none none none none none) (by simp [hmp, hc, yS, dm])]
  rw [seq_nx (ρ' := yS n m w c (some (.ownT [])) none none none none none none none none none) rfl]
  rw [seq_nx (ρ' := yS n m w c (some (.ownT (encT es1))) t5 none none none none none none none none) (by
    rw [ev_sFor, q1]
    exact y1)]
  rw [seq_nx (ρ' := yS n m w c (some (.ownT (encT es))) a5 a6 a7 a8 none none none none none) (by
    rw [ev_sFor, q2]
    exact y2)]
  rw [seq_nx (ρ' := yS n m w c (some (.ownT (encT es))) a5 a6 a7 a8 (some (.list [.int 0])) none none none none) (by
    simp [yS, dm])]
  rw [seq_nx (ρ' := yS n m w c (some (.ownT (encT es))) b5 a6 a7 a8 (some (.list (ms.map .int))) b10 none none none) (by
    rw [ev_sFor, q3]
    exact y3)]
  rw [seq_nx (ρ' := yS n m w c (some (.ownT (encT es))) b5 a6 a7 a8 (some (.list (ms.map .int))) b10 (some (.own [])) none none) (by
    simp [yS, dm])]
  rw [seq_nx (ρ' := yS n m w c none b5 a6 a7' a8' (some (.list (ms.map .int))) b10 (some (.own ((es.map (lk ms es)).map encL))) t12 t13) (by
    have hkey : keysT (encT es) = es.map fun e => .tuple [.int e.1, .int e.2.1] := by
      unfold keysT encT
      rw [List.map_map]
      rfl
    show (match forL (gTup [7, 8]) bd_y4 (keysT (encT es)) (yS n m w c (some (.frzT (encT es))) b5 a6 a7 a8 (some (.list (ms.map .int))) b10 (some (.own [])) none none) with
      | some (SOut.nx ρ') => if noFrz (ρ'.set 4 none) then some (SOut.nx (ρ'.set 4 none)) else none
      | _ => none) = _
    rw [hkey, y4]
    show (if noFrz (yS n m w c none b5 a6 a7' a8' (some (.list (ms.map .int))) b10 (some (.own ((es.map (lk ms es)).map encL))) t12 t13) = true then some (SOut.nx (yS n m w c none b5 a6 a7' a8' (some (.list (ms.map .int))) b10 (some (.own ((es.map (lk ms es)).map encL))) t12 t13)) else none) = _
    rw [if_pos]
    exact noF_y ..)]
  have e1 : e1 sortD (eVarW 11) (yS n m w c none b5 a6 a7' a8' (some (.list (ms.map .int))) b10 (some (.own ((es.map (lk ms es)).map encL))) t12 t13) = some (.ok (.list (ls.map encL))) := by
    rw [ev_e1]
    show bnd (some (.ok (PyData.list ((es.map (lk ms es)).map encL)))) (fun a => lft (sortD a)) = _
    rw [bnd_ok, hs]
    rfl
  rw [ev_sRet, ev_tup, ev_aCons, ev_aCons, ev_e1, e1]
  rfl
theorem ev_yard2 (n : Int) {m w : Int} (hm : 1 ≤ m ∧ m ≤ 100) (hw : 1 ≤ w ∧ w ≤ 100) : ∃ c ls, (1 ≤ c ∧ c ≤ m ∧ Z c ls ∧ Dg.L_yard [.int n, .int m, .int w] = some (.ok (encY c ls))) ∧ (∀ l ∈ ls, 1 ≤ l.2.2 ∧ l.2.2 ≤ w) ∧ ls.length ≤ c.toNat + 3 := by
  obtain ⟨c, ls, h1, h2, h3, _⟩ := ev_yard3 n hm hw
  exact ⟨c, ls, h1, h2, h3⟩
theorem ev_yard (n : Int) {m w : Int} (hm : 1 ≤ m ∧ m ≤ 100) (hw : 1 ≤ w ∧ w ≤ 100) : ∃ c ls, 1 ≤ c ∧ c ≤ m ∧ Z c ls ∧ Dg.L_yard [.int n, .int m, .int w] = some (.ok (encY c ls)) := by
  obtain ⟨c, ls, h, _⟩ := ev_yard2 n hm hw
  exact ⟨c, ls, h⟩
end Pe

set_option maxHeartbeats 4400000
namespace Pe
open Dn
open PySem (PyData)
/-! ### the law's own forms: sums over links -/
theorem ind_eq {q x : Int} : ∀ xs : List Int, xs.Nodup → (xs.map fun o => if o = q then x else 0).sum = if q ∈ xs then x else 0
  | [], _ => rfl
  | y :: xs, h => by
    rw [List.nodup_cons] at h
    rw [List.map_cons, List.sum_cons, ind_eq xs h.2]
    by_cases e : y = q
    · subst e
      rw [if_pos rfl, if_neg h.1, if_pos List.mem_cons_self]
      omega
    · rw [if_neg e]
      by_cases m : q ∈ xs
      · rw [if_pos m, if_pos (List.mem_cons_of_mem _ m)]
        omega
      · rw [if_neg m, if_neg fun k => by
          rcases List.mem_cons.mp k with k | k
          · exact e k.symm
          · exact m k]
        rfl
def hit (i j : Int) (l : Lk) : Bool := decide (l.1 ≠ l.2.1) && (decide (l.1 = i ∧ l.2.1 = j) || decide (l.1 = j ∧ l.2.1 = i))
def Lbt (ls : List Lk) (i j : Int) : Int := ((ls.filter (hit i j)).map fun l => l.2.2).sum
theorem hit_iff {i j : Int} {l : Lk} (h : l.1 < l.2.1) : hit i j l = true ↔ l.1 = min i j ∧ l.2.1 = max i j := by
  unfold hit
  simp only [Bool.and_eq_true, Bool.or_eq_true, decide_eq_true_eq]
  omega
theorem Lbt_cons (l : Lk) (r : List Lk) (i j : Int) : Lbt (l :: r) i j = (if hit i j l = true then l.2.2 else 0) + Lbt r i j := by
  unfold Lbt
  by_cases h : hit i j l = true
  · rw [List.filter_cons_of_pos h, if_pos h, List.map_cons, List.sum_cons]
  · rw [List.filter_cons_of_neg h, if_neg h, Int.zero_add]
theorem Lbt_eq (i j : Int) : ∀ ls : List Lk, (∀ l ∈ ls, l.1 < l.2.1) → ND ls → Lbt ls i j = btw ls i j
  | [], _, _ => rfl
  | l :: r, h, d => by
    have hl := h l List.mem_cons_self
    unfold ND at d
    rw [List.map_cons, List.nodup_cons] at d
    rw [Lbt_cons, btw_cons]
    by_cases q : l.1 = min i j ∧ l.2.1 = max i j
    · rw [if_pos q, if_pos ((hit_iff hl).mpr q)]
      have : r.filter (hit i j) = [] := List.filter_eq_nil_iff.mpr fun m hm k => by
        have q2 := (hit_iff (h m (List.mem_cons_of_mem _ hm))).mp k
        apply d.1
        refine List.mem_map.mpr ⟨m, hm, ?_⟩
        show (m.1, m.2.1) = (l.1, l.2.1)
        rw [q2.1, q2.2, q.1, q.2]
      unfold Lbt
      rw [this]
      simp
    · rw [if_neg q, if_neg fun k => q ((hit_iff hl).mp k), Int.zero_add]
      exact Lbt_eq i j r (fun m hm => h m (List.mem_cons_of_mem _ hm)) d.2
theorem hit_oth {p o : Int} {l : Lk} (h : l.1 < l.2.1) : hit p o l = true ↔ (l.1 = p ∨ l.2.1 = p) ∧ o = oth l p := by
  rw [hit_iff h]
  unfold oth
  split <;> omega
theorem sz_cons (l : Lk) (r : List Lk) (p : Int) : sz (l :: r) p = (if l.1 = p ∨ l.2.1 = p then l.2.2 else 0) + sz r p := by
  unfold sz
  by_cases h : l.1 = p ∨ l.2.1 = p
  · rw [List.filter_cons_of_pos (by simpa using h), if_pos h, List.map_cons, List.sum_cons]
  · rw [List.filter_cons_of_neg (by simpa using h), if_neg h, Int.zero_add]
/-- over all places and the ditch -/
theorem su_Lbt (c : Int) (p : Int) : ∀ ls : List Lk, (∀ l ∈ ls, 0 ≤ l.1 ∧ l.1 < l.2.1 ∧ l.2.1 ≤ c) → ((nums (c + 1)).map fun q => Lbt ls p (q - 1)).sum = sz ls p
  | [], _ => by
    have := su_mul (0 : Int) (fun _ : Int => 0) (nums (c + 1))
    simp only [Int.zero_mul] at this
    exact this
  | l :: r, h => by
    have hl := h l List.mem_cons_self
    have ih := su_Lbt c p r fun m hm => h m (List.mem_cons_of_mem _ hm)
    have e : ((nums (c + 1)).map fun q => Lbt (l :: r) p (q - 1)) = (nums (c + 1)).map fun q => (if q = oth l p + 1 then (if l.1 = p ∨ l.2.1 = p then l.2.2 else 0) else 0) + Lbt r p (q - 1) := List.map_congr_left fun q _ => by
      rw [Lbt_cons]
      congr 1
      by_cases a : l.1 = p ∨ l.2.1 = p
      · rw [if_pos a]
        by_cases b : q = oth l p + 1
        · rw [if_pos b, if_pos ((hit_oth hl.2.1).mpr ⟨a, by omega⟩)]
        · rw [if_neg b, if_neg fun k => b (by have := ((hit_oth hl.2.1).mp k).2; omega)]
      · rw [if_neg a, if_neg fun k => a ((hit_oth hl.2.1).mp k).1]
        split <;> rfl
    rw [e, su_add, ind_eq _ (nums_nodup _), ih, sz_cons]
    congr 1
    by_cases a : l.1 = p ∨ l.2.1 = p
    · rw [if_pos a, if_pos (mem_nums.mpr (by unfold oth; split <;> omega))]
    · rw [if_neg a]
      split <;> rfl
/-! forced, link by link -/
def ed (t f : Int → Int) (m a b : Int) (p : Int) : Int := if a > 0 then (f p - (if p = a then m * t a else 0)) + (if b > 0 then (if p = b then m * t a else 0) else 0) else f p
def stp (t f : Int → Int) (l : Lk) : Int → Int := ed t (ed t f l.2.2 l.1 l.2.1) l.2.2 l.2.1 l.1
def wt (t : Int → Int) (o : Int) : Int := if 0 < o then t o else 0
theorem stp_eq {t f : Int → Int} {l : Lk} {p : Int} (h : 0 ≤ l.1 ∧ l.1 < l.2.1) (hp : 1 ≤ p) : stp t f l p = f p + (if l.1 = p ∨ l.2.1 = p then l.2.2 * wt t (oth l p) - l.2.2 * t p else 0) := by
  unfold stp ed wt oth
  by_cases h1 : l.1 = p
  · subst h1
    have e1 : ¬ l.1 = l.2.1 := by omega
    have e2 : l.2.1 > 0 := by omega
    have e3 : l.1 > 0 := by omega
    simp [e1, e2, e3]
    omega
  · by_cases h2 : l.2.1 = p
    · subst h2
      have e2 : l.2.1 > 0 := by omega
      have e1 : ¬ l.2.1 = l.1 := by omega
      by_cases h3 : l.1 > 0
      · simp [h1, e1, e2, h3]
        omega
      · simp [h1, e1, e2, h3]
        omega
    · have e1 : ¬ p = l.1 := fun q => h1 q.symm
      have e2 : ¬ p = l.2.1 := fun q => h2 q.symm
      simp [h1, h2, e1, e2]
theorem fold_stp {c : Int} (t : Int → Int) {p : Int} (hp : 1 ≤ p) : ∀ (ls : List Lk) (f : Int → Int), (∀ l ∈ ls, 0 ≤ l.1 ∧ l.1 < l.2.1 ∧ l.2.1 ≤ c) → ls.foldl (stp t) f p = f p - t p * sz ls p + ((ls.filter fun l => l.1 == p || l.2.1 == p).map fun l => l.2.2 * wt t (oth l p)).sum
  | [], f, _ => by simp [sz]
  | l :: r, f, h => by
    have hl := h l List.mem_cons_self
    rw [List.foldl_cons, fold_stp t hp r (stp t f l) (fun m hm => h m (List.mem_cons_of_mem _ hm)), stp_eq ⟨hl.1, hl.2.1⟩ hp, sz_cons]
    by_cases a : l.1 = p ∨ l.2.1 = p
    · rw [List.filter_cons_of_pos (by simpa using a), if_pos a, if_pos a, List.map_cons, List.sum_cons, Int.mul_add, Int.mul_comm (t p) l.2.2]
      omega
    · rw [List.filter_cons_of_neg (by simpa using a), if_neg a, if_neg a, Int.zero_add]
      omega
theorem inc_eq {c : Int} (t : Int → Int) {p : Int} : ∀ ls : List Lk, (∀ l ∈ ls, 0 ≤ l.1 ∧ l.1 < l.2.1 ∧ l.2.1 ≤ c) → ((nums c).map fun o => if o = p then 0 else t o * Lbt ls p o).sum = ((ls.filter fun l => l.1 == p || l.2.1 == p).map fun l => l.2.2 * wt t (oth l p)).sum
  | [], _ => by
    have e : ((nums c).map fun o => if o = p then 0 else t o * Lbt [] p o) = (nums c).map fun _ => 0 := List.map_congr_left fun o _ => by
      show (if o = p then 0 else t o * 0) = 0
      rw [Int.mul_zero]
      split <;> rfl
    rw [e]
    have := su_mul (0 : Int) (fun _ : Int => 0) (nums c)
    simp only [Int.zero_mul] at this
    exact this
  | l :: r, h => by
    have hl := h l List.mem_cons_self
    have ih := inc_eq (c := c) t (p := p) r fun m hm => h m (List.mem_cons_of_mem _ hm)
    have e : ((nums c).map fun o => if o = p then 0 else t o * Lbt (l :: r) p o) = (nums c).map fun o => (if o = oth l p then (if l.1 = p ∨ l.2.1 = p then l.2.2 * t (oth l p) else 0) else 0) + (if o = p then 0 else t o * Lbt r p o) := List.map_congr_left fun o _ => by
      rw [Lbt_cons]
      by_cases ho : o = p
      · rw [if_pos ho, if_pos ho]
        by_cases a : l.1 = p ∨ l.2.1 = p
        · have : ¬ o = oth l p := by
            unfold oth
            split <;> omega
          rw [if_neg this]
          rfl
        · rw [if_neg a]
          split <;> rfl
      · rw [if_neg ho, if_neg ho, Int.mul_add]
        congr 1
        by_cases a : l.1 = p ∨ l.2.1 = p
        · rw [if_pos a]
          by_cases b : o = oth l p
          · rw [if_pos b, if_pos ((hit_oth hl.2.1).mpr ⟨a, b⟩), b, Int.mul_comm]
          · rw [if_neg b, if_neg fun k => b ((hit_oth hl.2.1).mp k).2, Int.mul_zero]
        · rw [if_neg a, if_neg fun k => a ((hit_oth hl.2.1).mp k).1, Int.mul_zero]
          split <;> rfl
    rw [e, su_add, ind_eq _ (nums_nodup _), ih]
    by_cases a : l.1 = p ∨ l.2.1 = p
    · rw [List.filter_cons_of_pos (by simpa using a), List.map_cons, List.sum_cons, if_pos a]
      congr 1
      unfold wt
      by_cases b : 0 < oth l p
      · rw [if_pos b, if_pos]
        refine mem_nums.mpr ⟨by omega, ?_⟩
        unfold oth
        split <;> omega
      · rw [if_neg b, if_neg fun k => by have := mem_nums.mp k; omega, Int.mul_zero]
    · rw [List.filter_cons_of_neg (by simpa using a), if_neg a]
      split <;> omega
theorem fold_fo {c : Int} {ls : List Lk} (z : Z c ls) (g t : Int → Int) : EqP c (ls.foldl (stp t) g) (fo c ls g t) := fun p hp => by
  rw [fold_stp t (mem_nums.mp hp).1 ls g z.rng, fo_eq, ← inc_eq t ls z.rng]
  unfold inc sumN
  congr 2
  refine List.map_congr_left fun o _ => ?_
  rw [Lbt_eq p o ls (fun l hl => (z.rng l hl).2.1) z.dis]
end Pe

set_option maxHeartbeats 4400000
namespace Pe
open Dn
open PySem (PyData)
/-! ### the law's own forms, walked -/
theorem pairIn (a b i j : Int) : inD (.tuple [.int a, .int b]) (.tuple [.tuple [.int i, .int j], .tuple [.int j, .int i]]) = some (.bool (decide (a = i ∧ b = j) || decide (a = j ∧ b = i))) := by
  simp [inD, PyData.plainAll, PyData.plain, okD, PyData.depth, PyData.depthAll, PyData.eqv, PyData.eqvAll]
  rw [Bool.eq_iff_iff]
  simp
  omega
theorem ev_Lbt {c : Int} {ls : List Lk} (g : G c ls) (i j : Int) : Dg.L_between [encY c ls, .int i, .int j] = some (.ok (.int (Lbt ls i j))) := by
  refine runF_ok rfl ?_
  show Dg.b_L_between [some (.dat (encY c ls)), some (.dat (.int i)), some (.dat (.int j)), none, none, none] = _
  have hlen : ls.length ≤ 1000000 := by have := g.l1; omega
  have hc := compL_map (g := gTup [3, 4, 5]) (t := tAndF (asB (e2 neD (eVarW 3) (eVarW 4))) (asB (e2 inD (eTup (aCons (eVar 3) (aCons (eVar 4) aNil))) (eTup (aCons (eTup (aCons (eVar 1) (aCons (eVar 2) aNil))) (aCons (eTup (aCons (eVar 2) (aCons (eVar 1) aNil))) aNil)))))) (f := eVar 5) encL [some (.dat (encY c ls)), some (.dat (.int i)), some (.dat (.int j)), none, none, none] (hit i j) (fun l => .int l.2.2) ls fun l hl => ⟨[some (.dat (encY c ls)), some (.dat (.int i)), some (.dat (.int j)), some (.dat (.int l.1)), some (.dat (.int l.2.1)), some (.dat (.int l.2.2))], by simp [encL], by
      by_cases h : l.1 = l.2.1
      · simp [tAndF, h, hit]
      · simp [tAndF, h, hit, pairIn], fun _ => by simp⟩
  have hm : ((ls.filter (hit i j)).map fun l => PyData.int l.2.2) = ((ls.filter (hit i j)).map fun l => l.2.2).map .int := by
    rw [List.map_map]
    rfl
  unfold Dg.b_L_between
  have e0 : iSeq (e2 ixD (eVarW 0) (eC (.int 1))) [some (.dat (encY c ls)), some (.dat (.int i)), some (.dat (.int j)), none, none, none] = some (.ok (ls.map encL)) := by
    simp [encY, encLs]
  simp only [ev_sRet, ev_e1, ev_comp]
  rw [e0]
  simp only [bnd_ok, List.length_map, if_pos hlen, ev_wipe0, ev_wipe1, List.set_cons_succ, List.set_cons_zero]
  rw [hc, hm]
  simp only [bnd_ok, ev_ret, ev_sum, lft_some, bS_ok]
  rfl
noncomputable def bd_Ls : SF := Dn.sApp 1 (Dn.e1 Dn.sumD (Dn.eComp (Dn.iRng1 (Dn.e2 Dn.addD (Dn.e2 Dn.ixD (Dn.eVarW 0) (Dn.eC (.int 0))) (Dn.eC (.int 1)))) (Dn.gName 3) Dn.tYesF (Dn.eCall Dg.L_between (Dn.aCons (Dn.eVar 0) (Dn.aCons (Dn.eVar 2) (Dn.aCons (Dn.eVar 3) Dn.aNil)))) [3]))
theorem st_Ls {c : Int} {ls : List Lk} (z : Z c ls) (hc : c ≤ 50) (acc : List D) (p : Int) (hl : acc.length < 1000000) : bd_Ls [some (.dat (encY c ls)), some (.own acc), some (.dat (.int p)), none] = some (.nx [some (.dat (encY c ls)), some (.own (acc ++ [.int (sz ls p)])), some (.dat (.int p)), none]) := by
  have h1 := z.c1
  have hlen : (nums (c + 1)).length ≤ 1000000 := by rw [nums_len]; omega
  have hcm := compL_all (g := gName 3) (f := eCall Dg.L_between (aCons (eVar 0) (aCons (eVar 2) (aCons (eVar 3) aNil)))) (fun q => PyData.int (q - 1)) [some (.dat (encY c ls)), some (.own acc), some (.dat (.int p)), none] (fun q => .int (Lbt ls p (q - 1))) (nums (c + 1)) (fun q hq => ⟨[some (.dat (encY c ls)), some (.own acc), some (.dat (.int p)), some (.dat (.int (q - 1)))], by simp, by simp [ev_Lbt z.toG]⟩)
  have hm : ((nums (c + 1)).map fun q => PyData.int (Lbt ls p (q - 1))) = ((nums (c + 1)).map fun q => Lbt ls p (q - 1)).map .int := by
    rw [List.map_map]
    rfl
  have e0 : iRng1 (e2 addD (e2 ixD (eVarW 0) (eC (.int 0))) (eC (.int 1))) [some (.dat (encY c ls)), some (.own acc), some (.dat (.int p)), none] = some (.ok ((nums (c + 1)).map fun q => .int (q - 1))) := by
    simp [encY, rng0 (c := c + 1) (by omega) (by omega)]
  unfold bd_Ls
  simp only [ev_sApp, List.getElem?_cons_succ, List.getElem?_cons_zero, ev_e1, ev_comp]
  rw [e0]
  simp only [bnd_ok, List.length_map, if_pos hlen, ev_wipe0, ev_wipe1, List.set_cons_succ, List.set_cons_zero]
  rw [hcm, hm]
  simp only [bnd_ok, ev_ret, ev_sum, lft_some, bS_ok, su_Lbt c p ls z.rng, if_pos hl]
theorem ev_Lsizes {c : Int} {ls : List Lk} (z : Z c ls) (hc : c ≤ 50) : Dg.L_sizes [encY c ls] = some (.ok (encI c (sz ls))) := by
  refine runF_ok rfl ?_
  show Dg.b_L_sizes [some (.dat (encY c ls)), none, none, none] = _
  have h1 := z.c1
  have hn : (nums c).length ≤ 100 := by rw [nums_len]; omega
  obtain ⟨ρ', hf, s2, rfl⟩ := forL_I (g := gName 2) (b := bd_Ls) PyData.int (fun pre ρ => ∃ s2, ρ = [some (.dat (encY c ls)), some (.own (pre.map fun p => .int (sz ls p))), s2, none]) (nums c) [] [some (.dat (encY c ls)), some (.own []), none, none] ⟨none, rfl⟩ (by
    rintro pr x po ρ hp ⟨s2, rfl⟩
    rw [List.nil_append] at hp
    have hpl : pr.length < (nums c).length := by
      rw [hp, List.length_append, List.length_cons]
      omega
    refine ⟨_, _, rfl, st_Ls z hc (pr.map fun p => .int (sz ls p)) x (by rw [List.length_map]; omega), some (.dat (.int x)), ?_⟩
    rw [List.map_append]
    rfl)
  have e0 : iRng2 (eC (.int 1)) (e2 addD (e2 ixD (eVarW 0) (eC (.int 0))) (eC (.int 1))) [some (.dat (encY c ls)), some (.own []), none, none] = some (.ok ((nums c).map .int)) := by
    simp [encY, rng_nums (c := c) (by omega) (by omega)]
  unfold Dg.b_L_sizes
  rw [seq_nx (ρ' := [some (.dat (encY c ls)), some (.own []), none, none]) (by simp)]
  rw [seq_nx (by
    rw [ev_sFor, e0]
    exact hf)]
  rfl
/-! forced -/
def LI (c : Int) (f : Int → Int) : List D := (nums c).map fun p => .int (f p)
theorem LI_ix {c p : Int} (f : Int → Int) (h : p ∈ nums c) : ixD (.list (LI c f)) (.int (p - 1)) = some (.int (f p)) := by
  have h2 := ixF f h
  unfold encF encG at h2
  rw [List.map_map] at h2
  exact h2
def px (p : Int) : Nat := (p - 1).toNat
theorem LI_nat {c p : Int} (f : Int → Int) (h : p ∈ nums c) : ixNat (LI c f).length (p - 1) = some (px p) := by
  show _ = some (p - 1).toNat
  have hb := mem_nums.mp h
  unfold ixNat LI
  rw [List.length_map, nums_len, if_pos (by omega), if_pos (by omega)]
theorem LI_set {c p : Int} (f : Int → Int) (v : Int) (h : p ∈ nums c) : (LI c f).set (px p) (.int v) = LI c fun q => if q = p then v else f q := by
  show (LI c f).set (p - 1).toNat (.int v) = _
  have hb := mem_nums.mp h
  refine List.ext_getElem? fun i => ?_
  unfold LI
  rw [List.getElem?_map]
  by_cases hi : i < (nums c).length
  · have hi2 : i < c.toNat := by rw [nums_len] at hi; exact hi
    have hv : (nums c)[i]? = some (1 + (i : Int)) := by
      unfold nums
      rw [List.getElem?_map, List.getElem?_range hi2]
      rfl
    rw [hv]
    by_cases e : (p - 1).toNat = i
    · rw [e, List.getElem?_set_self (by rw [List.length_map]; exact hi)]
      have : (1 + (i : Int)) = p := by omega
      show _ = some (PyData.int (if 1 + (i : Int) = p then v else _))
      rw [if_pos this]
    · rw [List.getElem?_set_ne e, List.getElem?_map, hv]
      have : ¬ (1 + (i : Int)) = p := by omega
      show some (PyData.int _) = some (PyData.int (if 1 + (i : Int) = p then v else _))
      rw [if_neg this]
  · rw [List.getElem?_eq_none (by rw [List.length_set, List.length_map]; omega), List.getElem?_eq_none (by omega)]
    rfl
end Pe

set_option maxHeartbeats 4400000
namespace Pe
open Dn
open PySem (PyData)
/-! ### burns -/
theorem runF_rt {n N : Nat} {b : SF} {ds : List D} {d : D} (hl : ds.length = n) (h : b (ds.map (fun d => some (.dat d)) ++ List.replicate (N - n) none) = some (.rt d)) : runF n N b ds = some (.ok d) := by
  unfold runF
  rw [if_pos hl, h]
  rfl
theorem runF_nx {n N : Nat} {b : SF} {ds : List D} {ρ : Dn.Env} (hl : ds.length = n) (h : b (ds.map (fun d => some (.dat d)) ++ List.replicate (N - n) none) = some (.nx ρ)) : runF n N b ds = some (.ok .none) := by
  unfold runF
  rw [if_pos hl, h]
  rfl
theorem runF_exc {n N : Nat} {b : SF} {ds : List D} {c : PySem.Str} (hl : ds.length = n) (h : b (ds.map (fun d => some (.dat d)) ++ List.replicate (N - n) none) = some (.exc c)) : runF n N b ds = some (.exc c) := by
  unfold runF
  rw [if_pos hl, h]
def encIs (L : List Int) : D := .list (L.map .int)
/-- what burns next -/
def tn (ls : List Lk) (g : Int → Int) (L : List Int) : List Int := L.filter fun p => decide ((L.map fun o => btw ls p o).sum ≤ g p)
def rem (T L : List Int) : List Int := L.filter fun p => !decide (p ∈ T)
def brn (ls : List Lk) (g : Int → Int) : Nat → List Int → List (List Int)
  | 0, _ => []
  | n + 1, L => if tn ls g L = [] then [] else tn ls g L :: brn ls g n (rem (tn ls g L) L)
theorem rem_lt {T L : List Int} (h : ∀ p ∈ T, p ∈ L) (hT : T ≠ []) : (rem T L).length < L.length := by
  cases T with
  | nil => exact absurd rfl hT
  | cons p T =>
    unfold rem
    refine List.length_filter_lt_length_iff_exists.mpr ⟨p, h p List.mem_cons_self, ?_⟩
    simp
theorem tn_mem {ls : List Lk} {g : Int → Int} {L : List Int} : ∀ p ∈ tn ls g L, p ∈ L := fun p h => (List.mem_filter.mp h).1
theorem rem_mem {T L : List Int} : ∀ p ∈ rem T L, p ∈ L := fun p h => (List.mem_filter.mp h).1
theorem brn_more {ls : List Lk} {g : Int → Int} : ∀ (n m : Nat) (L : List Int), L.length ≤ n → L.length ≤ m → brn ls g n L = brn ls g m L
  | 0, 0, _, _, _ => rfl
  | 0, m + 1, L, h1, _ => by
    have : L = [] := List.length_eq_zero_iff.mp (by omega)
    subst this
    rfl
  | n + 1, 0, L, _, h2 => by
    have : L = [] := List.length_eq_zero_iff.mp (by omega)
    subst this
    rfl
  | n + 1, m + 1, L, h1, h2 => by
    unfold brn
    by_cases h : tn ls g L = []
    · rw [if_pos h, if_pos h]
    · rw [if_neg h, if_neg h]
      have := rem_lt (tn_mem (ls := ls) (g := g) (L := L)) h
      rw [brn_more n m _ (by omega) (by omega)]
def encTs (Ts : List (List Int)) : List D := Ts.map fun T => .tuple (T.map .int)
/-- x in L, of numbers -/
theorem inIs (p : Int) (L : List Int) : inD (.int p) (encIs L) = some (.bool (decide (p ∈ L))) := by
  have h1 : PyData.plainAll (L.map .int) = true := plainG L
  have h2 : okD (.int p) = true := by
    unfold okD
    simp [PyData.plain, PyData.depth]
  show (if (PyData.plainAll (L.map .int) && okD (.int p)) = true then some (PyData.bool ((L.map PyData.int).any fun y => PyData.eqv y (.int p))) else none) = _
  rw [h1, h2, if_pos (by decide)]
  congr 2
  rw [List.any_map, Bool.eq_iff_iff, List.any_eq_true, decide_eq_true_eq]
  constructor
  · rintro ⟨x, hx, e⟩
    have e' : x = p := by simpa [PyData.eqv] using e
    rw [← e']
    exact hx
  · intro h
    exact ⟨p, h, by simp [PyData.eqv]⟩
theorem ninIs (p : Int) (L : List Int) : inN (.int p) (encIs L) = some (.bool (!decide (p ∈ L))) := by
  unfold inN
  rw [inIs]
  rfl
def bS_ (c : Int) (ls : List Lk) (g : Int → Int) (L : List Int) (Ts : List (List Int)) (m : Bool) (s5 : Option Sl) : Dn.Env := [some (.dat (encY c ls)), some (.dat (encF c g)), some (.dat (encIs L)), some (.own (encTs Ts)), some (.dat (.bool m)), s5, none, none]
noncomputable def bd_b : SF := (Dn.sSeq (Dn.sAsg (Dn.gName 5) (Dn.eComp (Dn.iSeq (Dn.eVar 2)) (Dn.gName 6) (Dn.asB (Dn.e2 Dn.geD (Dn.e2 Dn.ixD (Dn.eVarW 1) (Dn.e2 Dn.subD (Dn.eVarW 6) (Dn.eC (.int 1)))) (Dn.e1 Dn.sumD (Dn.eComp (Dn.iSeq (Dn.eVar 2)) (Dn.gName 7) Dn.tYesF (Dn.eCall Dg.P_between (Dn.aCons (Dn.eVar 0) (Dn.aCons (Dn.eVar 6) (Dn.aCons (Dn.eVar 7) Dn.aNil)))) [7])))) (Dn.eVar 6) [6]))
    (Dn.sSeq (Dn.sAsg (Dn.gName 2) (Dn.eComp (Dn.iSeq (Dn.eVar 2)) (Dn.gName 6) (Dn.asB (Dn.e2 Dn.inN (Dn.eVarW 6) (Dn.eVarW 5))) (Dn.eVar 6) [6]))
    (Dn.sSeq (Dn.sAsg (Dn.gName 4) (Dn.e2 Dn.gtD (Dn.e1 Dn.lenD (Dn.eVarW 5)) (Dn.eC (.int 0))))
    (Dn.sIf (Dn.asB (Dn.eVarW 4)) (Dn.sApp 3 (Dn.e1 Dn.tupD (Dn.eVarW 5))) Dn.sNx))))
theorem len_le {c : Int} (hc : c ≤ 100) {L : List Int} (h : L.length ≤ c.toNat) : L.length ≤ 1000000 := by omega
theorem st_b {c : Int} {ls : List Lk} (k : G c ls) (g : Int → Int) {L : List Int} (hL : ∀ p ∈ L, p ∈ nums c) (hl : L.length ≤ 100) (Ts : List (List Int)) (ht : Ts.length ≤ 1000) (m : Bool) (s5 : Option Sl) :
    bd_b (bS_ c ls g L Ts m s5) = some (.nx (bS_ c ls g (rem (tn ls g L) L) (if tn ls g L = [] then Ts else Ts ++ [tn ls g L]) (!(tn ls g L).isEmpty) (some (.dat (encIs (tn ls g L)))))) := by
  have hlen : L.length ≤ 1000000 := by omega
  have q1 := compL_map (g := gName 6) (t := (Dn.asB (Dn.e2 Dn.geD (Dn.e2 Dn.ixD (Dn.eVarW 1) (Dn.e2 Dn.subD (Dn.eVarW 6) (Dn.eC (.int 1)))) (Dn.e1 Dn.sumD (Dn.eComp (Dn.iSeq (Dn.eVar 2)) (Dn.gName 7) Dn.tYesF (Dn.eCall Dg.P_between (Dn.aCons (Dn.eVar 0) (Dn.aCons (Dn.eVar 6) (Dn.aCons (Dn.eVar 7) Dn.aNil)))) [7]))))) (f := eVar 6) PyData.int (bS_ c ls g L Ts m s5) (fun p => decide ((L.map fun o => btw ls p o).sum ≤ g p)) .int L (fun p hp => ⟨[some (.dat (encY c ls)), some (.dat (encF c g)), some (.dat (encIs L)), some (.own (encTs Ts)), some (.dat (.bool m)), s5, some (.dat (.int p)), none], by simp [bS_], by
    have q2 := compL_all (g := gName 7) (f := (Dn.eCall Dg.P_between (Dn.aCons (Dn.eVar 0) (Dn.aCons (Dn.eVar 6) (Dn.aCons (Dn.eVar 7) Dn.aNil))))) PyData.int [some (.dat (encY c ls)), some (.dat (encF c g)), some (.dat (encIs L)), some (.own (encTs Ts)), some (.dat (.bool m)), s5, some (.dat (.int p)), none] (fun o => .int (btw ls p o)) L (fun o ho => ⟨[some (.dat (encY c ls)), some (.dat (encF c g)), some (.dat (encIs L)), some (.own (encTs Ts)), some (.dat (.bool m)), s5, some (.dat (.int p)), some (.dat (.int o))], by simp, by simp [ev_between]⟩)
    have hm : (L.map fun o => PyData.int (btw ls p o)) = (L.map fun o => btw ls p o).map .int := by
      rw [List.map_map]
      rfl
    have e0 : iSeq (eVar 2) [some (.dat (encY c ls)), some (.dat (encF c g)), some (.dat (encIs L)), some (.own (encTs Ts)), some (.dat (.bool m)), s5, some (.dat (.int p)), none] = some (.ok (L.map .int)) := rfl
    simp only [ev_asB, ev_e2, ev_e1, ev_comp, ev_varW, ev_c, List.getElem?_cons_succ, List.getElem?_cons_zero, ev_ret, bnd_ok, ev_subI, lft_some, ixF g (hL p hp)]
    rw [e0]
    simp only [bnd_ok, List.length_map, if_pos hlen, ev_wipe0, ev_wipe1, List.set_cons_succ, List.set_cons_zero]
    rw [q2, hm]
    simp only [bnd_ok, ev_ret, ev_sum, lft_some, intGe, ev_boolD], fun _ => by simp⟩)
  have q3 := compL_map (g := gName 6) (t := (Dn.asB (Dn.e2 Dn.inN (Dn.eVarW 6) (Dn.eVarW 5)))) (f := eVar 6) PyData.int (bS_ c ls g L Ts m (some (.dat (encIs (tn ls g L))))) (fun p => !decide (p ∈ tn ls g L)) .int L (fun p hp => ⟨[some (.dat (encY c ls)), some (.dat (encF c g)), some (.dat (encIs L)), some (.own (encTs Ts)), some (.dat (.bool m)), some (.dat (encIs (tn ls g L))), some (.dat (.int p)), none], by simp [bS_], by simp [ninIs], fun _ => by simp⟩)
  unfold bd_b
  rw [seq_nx (ρ' := bS_ c ls g L Ts m (some (.dat (encIs (tn ls g L))))) (by
    simp only [bS_] at q1 ⊢
    simp only [ev_sAsg, ev_comp, ev_iSeq, ev_var, List.getElem?_cons_succ, List.getElem?_cons_zero, ev_ret, bnd_ok]
    show bS (bnd (lft (some (L.map PyData.int))) _) _ = _
    simp only [lft_some, bnd_ok, List.length_map, if_pos hlen, ev_wipe0, ev_wipe1, List.set_cons_succ, List.set_cons_zero]
    rw [q1]
    rfl)]
  rw [seq_nx (ρ' := bS_ c ls g (rem (tn ls g L) L) Ts m (some (.dat (encIs (tn ls g L))))) (by
    simp only [bS_] at q3 ⊢
    simp only [ev_sAsg, ev_comp, ev_iSeq, ev_var, List.getElem?_cons_succ, List.getElem?_cons_zero, ev_ret, bnd_ok]
    show bS (bnd (lft (some (L.map PyData.int))) _) _ = _
    simp only [lft_some, bnd_ok, List.length_map, if_pos hlen, ev_wipe0, ev_wipe1, List.set_cons_succ, List.set_cons_zero]
    rw [q3]
    rfl)]
  have hgt : decide (0 < (tn ls g L).length) = !(tn ls g L).isEmpty := by
    cases tn ls g L with
    | nil => rfl
    | cons x xs => simp
  rw [seq_nx (ρ' := bS_ c ls g (rem (tn ls g L) L) Ts (!(tn ls g L).isEmpty) (some (.dat (encIs (tn ls g L))))) (by
    simp [bS_, encIs, lenD, hgt])]
  by_cases h : tn ls g L = []
  · rw [if_pos h, h]
    simp [bS_]
  · rw [if_neg h]
    have : (tn ls g L).isEmpty = false := by
      cases hq : tn ls g L with
      | nil => exact absurd hq h
      | cons x xs => rfl
    have hT : (encTs Ts).length < 1000000 := by
      unfold encTs
      rw [List.length_map]
      omega
    have eT : encTs (Ts ++ [tn ls g L]) = encTs Ts ++ [.tuple ((tn ls g L).map .int)] := by
      unfold encTs
      rw [List.map_append]
      rfl
    unfold bS_
    rw [eT, this]
    have hT2 : (encTs Ts).length < 1000000 := hT
    simp [encIs, hT2]
theorem lp_b {c : Int} {ls : List Lk} (k : G c ls) (g : Int → Int) : ∀ (n : Nat) (L : List Int) (Ts : List (List Int)) (s5 : Option Sl), (∀ p ∈ L, p ∈ nums c) → L.length < n → L.length + Ts.length ≤ 100 →
    ∃ L' s5' m, whileN m (asB (eVarW 4)) bd_b (bS_ c ls g L Ts true s5) = some (.nx (bS_ c ls g L' (Ts ++ brn ls g n L) false s5'))
  | 0, L, Ts, s5, _, h, _ => by omega
  | n + 1, L, Ts, s5, hL, hn, ht => by
    have hb := st_b k g hL (by omega) Ts (by omega) true s5
    by_cases h : tn ls g L = []
    · rw [h] at hb
      refine ⟨rem [] L, some (.dat (encIs [])), 2, ?_⟩
      unfold brn
      rw [if_pos h, List.append_nil]
      unfold whileN
      show bS (asB (eVarW 4) (bS_ c ls g L Ts true s5)) _ = _
      have e1 : asB (eVarW 4) (bS_ c ls g L Ts true s5) = some (.ok true) := rfl
      rw [e1]
      simp only [bS_ok, if_true]
      rw [hb]
      simp only [if_true]
      rfl
    · have hrl := rem_lt (tn_mem (ls := ls) (g := g) (L := L)) h
      obtain ⟨L', s5', m, hm⟩ := lp_b k g n (rem (tn ls g L) L) (Ts ++ [tn ls g L]) (some (.dat (encIs (tn ls g L)))) (fun p hp => hL p (rem_mem p hp)) (by omega) (by rw [List.length_append, List.length_singleton]; omega)
      refine ⟨L', s5', m + 1, ?_⟩
      have hne : (!(tn ls g L).isEmpty) = true := by
        cases hq : tn ls g L with
        | nil => exact absurd hq h
        | cons x xs => rfl
      rw [if_neg h, hne] at hb
      unfold brn
      rw [if_neg h]
      unfold whileN
      have e1 : asB (eVarW 4) (bS_ c ls g L Ts true s5) = some (.ok true) := rfl
      rw [e1]
      simp only [bS_ok, if_true]
      rw [hb]
      simp only
      rw [hm, List.append_assoc]
      rfl
def burns (c : Int) (ls : List Lk) (g : Int → Int) : List (List Int) := brn ls g (c.toNat + 1) (nums c)
theorem ev_burn {c : Int} {ls : List Lk} (k : G c ls) {g : Int → Int} (hg : rst c ls g = true) : Dg.P_burn [encY c ls, encF c g] = some (.ok (.tuple (encTs (burns c ls g)))) := by
  have h1 := k.c1
  have h2 := k.c2
  have hn : (nums c).length = c.toNat := nums_len c
  obtain ⟨L', s5', m, hm⟩ := lp_b k g (c.toNat + 1) (nums c) [] none (fun p hp => hp) (by omega) (by rw [hn]; simp; omega)
  rw [List.nil_append] at hm
  have hb : Dg.b_P_burn [some (.dat (encY c ls)), some (.dat (encF c g)), none, none, none, none, none, none] = some (.rt (.tuple (encTs (burns c ls g)))) := by
    unfold Dg.b_P_burn
    rw [seq_nx (ρ' := [some (.dat (encY c ls)), some (.dat (encF c g)), none, none, none, none, none, none]) (by
      simp [tNotF, ev_rests k, hg])]
    have hr : lrangeD (.int 1) (.int (c + 1)) = some (encIs (nums c)) := by
      unfold lrangeD
      rw [rng_nums (by omega) h2]
      rfl
    rw [seq_nx (ρ' := [some (.dat (encY c ls)), some (.dat (encF c g)), some (.dat (encIs (nums c))), none, none, none, none, none]) (by
      simp [encY, hr])]
    rw [seq_nx (ρ' := [some (.dat (encY c ls)), some (.dat (encF c g)), some (.dat (encIs (nums c))), some (.own []), none, none, none, none]) (by
      simp)]
    rw [seq_nx (ρ' := bS_ c ls g (nums c) [] true none) rfl]
    have hw := sWhile_of hm
    unfold bd_b at hw
    rw [seq_nx hw]
    simp [bS_, burns]
  exact runF_rt rfl hb
theorem ev_burnX {c : Int} {ls : List Lk} (k : G c ls) {g : Int → Int} (hg : rst c ls g = false) : Dg.P_burn [encY c ls, encF c g] = some (.exc "NoRest") := by
  have hb : Dg.b_P_burn [some (.dat (encY c ls)), some (.dat (encF c g)), none, none, none, none, none, none] = some (.exc "NoRest") := by
    unfold Dg.b_P_burn
    rw [ev_sSeq]
    simp [tNotF, ev_rests k, hg, sExc]
  exact runF_exc rfl hb
/-- all places burn -/
def lst_ (c : Int) (ls : List Lk) (g : Int → Int) : Bool := ((burns c ls g).map fun T => (T.length : Int)).sum == c
theorem brn_len {ls : List Lk} {g : Int → Int} : ∀ (n : Nat) (L : List Int), (brn ls g n L).length ≤ n
  | 0, _ => Nat.le_refl _
  | n + 1, L => by
    unfold brn
    split
    · exact Nat.zero_le _
    · rw [List.length_cons]
      exact Nat.succ_le_succ (brn_len n _)
theorem ev_lasting {c : Int} {ls : List Lk} (k : G c ls) {g : Int → Int} (hg : rst c ls g = true) : Dg.P_is_lasting [encY c ls, encF c g] = some (.ok (.bool (lst_ c ls g))) := by
  have h2 := k.c2
  have hlen : (burns c ls g).length ≤ 1000000 := by
    have := brn_len (ls := ls) (g := g) (c.toNat + 1) (nums c)
    unfold burns
    omega
  have hc := compL_all (g := gName 2) (f := e1 lenD (eVarW 2)) (fun T : List Int => PyData.tuple (T.map .int)) [some (.dat (encY c ls)), some (.dat (encF c g)), none] (fun T => .int (T.length : Int)) (burns c ls g) (fun T _ => ⟨[some (.dat (encY c ls)), some (.dat (encF c g)), some (.dat (.tuple (T.map .int)))], by simp, by simp [lenD]⟩)
  have hm : ((burns c ls g).map fun T => PyData.int (T.length : Int)) = ((burns c ls g).map fun T => (T.length : Int)).map .int := by
    rw [List.map_map]
    rfl
  have e0 : iSeq (eCall Dg.P_burn (aCons (eVar 0) (aCons (eVar 1) aNil))) [some (.dat (encY c ls)), some (.dat (encF c g)), none] = some (.ok ((burns c ls g).map fun T : List Int => PyData.tuple (T.map .int))) := by
    simp [ev_burn k hg, encTs]
  have hb : Dg.b_P_is_lasting [some (.dat (encY c ls)), some (.dat (encF c g)), none] = some (.rt (.bool (lst_ c ls g))) := by
    unfold Dg.b_P_is_lasting
    simp only [ev_sRet, ev_e2, ev_e1, ev_comp]
    rw [e0]
    simp only [bnd_ok, List.length_map, if_pos hlen, ev_wipe0, ev_wipe1, List.set_cons_succ, List.set_cons_zero]
    rw [hc, hm]
    simp only [bnd_ok, ev_ret, ev_sum, lft_some]
    simp [encY, lst_]
  exact runF_rt rfl hb
end Pe

set_option maxHeartbeats 4400000
namespace Pe
open Dn
open PySem (PyData)
noncomputable def mx (ns : List Int) (k : Nat) : Int := (ev_mixed ns k).choose
theorem ev_mx (ns : List Int) (k : Nat) : Dg.L_mixed [.list (ns.map .int), .int k] = some (.ok (.int (mx ns k))) := (ev_mixed ns k).choose_spec.1
theorem encF_LI (c : Int) (f : Int → Int) : encF c f = .tuple (LI c f) := by
  unfold encF encG LI
  rw [List.map_map]
  rfl
/-- one number of a row put anew -/
theorem put_at {c p : Int} (hc : c ≤ 100) (f : Int → Int) (v : Int) (h : p ∈ nums c) : ∃ a b, cutD none (some (p - 1)) (encF c f) = some (.tuple a) ∧ cutD (some p) none (encF c f) = some (.tuple b) ∧ addD (.tuple a) (.tuple [.int v]) = some (.tuple (a ++ [.int v])) ∧ addD (.tuple (a ++ [.int v])) (.tuple b) = some (encF c fun q => if q = p then v else f q) := by
  have hb := mem_nums.mp h
  have e1 : p - 1 = ((px p : Nat) : Int) := by
    unfold px
    omega
  have e2 : p = ((px p + 1 : Nat) : Int) := by
    unfold px
    omega
  have hl : (LI c f).length = c.toNat := by
    unfold LI
    rw [List.length_map, nums_len]
  have h1 : px p ≤ (LI c f).length := by
    unfold px
    omega
  have h2 : px p + 1 ≤ (LI c f).length := by
    unfold px
    omega
  have sl : (1000 : Nat) ≤ PySem.sizeLine := by decide
  refine ⟨(LI c f).take (px p), (LI c f).drop (px p + 1), ?_, ?_, ?_, ?_⟩
  · rw [encF_LI, e1]
    show some (PyData.tuple (cutL (LI c f) none (some ((px p : Nat) : Int)))) = _
    rw [cut_lo _ h1]
  · rw [encF_LI]
    show some (PyData.tuple (cutL (LI c f) (some p) none)) = _
    have : cutL (LI c f) (some p) none = cutL (LI c f) (some ((px p + 1 : Nat) : Int)) none := by rw [← e2]
    rw [this, cut_hi _ h2]
  · show (if ((LI c f).take (px p)).length + 1 ≤ PySem.sizeLine then _ else none) = _
    rw [if_pos (by rw [List.length_take]; omega)]
  · show (if ((LI c f).take (px p) ++ [PyData.int v]).length + ((LI c f).drop (px p + 1)).length ≤ PySem.sizeLine then _ else none) = _
    rw [if_pos (by rw [List.length_append, List.length_take, List.length_drop, List.length_singleton]; omega), encF_LI, ← LI_set f v h, List.set_eq_take_append_cons_drop, if_pos (by omega), List.append_assoc]
    rfl
theorem enum_map (f : Int → D) : ∀ (k : Nat) (xs : List Int) (h : ∀ (i : Nat) (x : Int), xs[i]? = some x → x = (k : Int) + i + 1), enumL k (xs.map f) = xs.map fun p => .tuple [.int (p - 1), f p]
  | _, [], _ => rfl
  | k, x :: xs, h => by
    have h0 := h 0 x rfl
    have ih := enum_map f (k + 1) xs fun i y hy => by
      have := h (i + 1) y hy
      omega
    rw [List.map_cons, List.map_cons]
    show PyData.tuple [.int k, f x] :: enumL (k + 1) (xs.map f) = _
    rw [ih]
    have : (k : Int) = x - 1 := by omega
    rw [this]
theorem enumI (c : Int) (f : Int → Int) : enumAD (encI c f) = some ((nums c).map fun p => .tuple [.int (p - 1), .int (f p)]) := by
  show some (enumL 0 _) = _
  rw [enum_map]
  intro i x hx
  have hl := (List.getElem?_eq_some_iff.mp hx).1
  rw [nums_len] at hl
  unfold nums at hx
  rw [List.getElem?_map, List.getElem?_range hl] at hx
  have h3 : (1 : Int) + (i : Int) = x := Option.some.inj hx
  omega
theorem encI_ix {c p : Int} (f : Int → Int) (h : p ∈ nums c) : ixD (encI c f) (.int (p - 1)) = some (.int (f p)) := LI_ix f h
theorem seq_exc {a b : SF} {ρ : Dn.Env} {c : PySem.Str} (h : a ρ = some (.exc c)) : sSeq a b ρ = some (.exc c) := by
  rw [ev_sSeq, h]
theorem seq_rt {a b : SF} {ρ : Dn.Env} {d : D} (h : a ρ = some (.rt d)) : sSeq a b ρ = some (.rt d) := by
  rw [ev_sSeq, h]
end Pe

set_option maxHeartbeats 4400000
namespace Pe
open Dn
open PySem (PyData)
/-! ### told -/
theorem ev_lastingX {c : Int} {ls : List Lk} (k : G c ls) {g : Int → Int} (hg : rst c ls g = false) : Dg.P_is_lasting [encY c ls, encF c g] = some (.exc "NoRest") := by
  refine runF_exc rfl ?_
  show Dg.b_P_is_lasting [some (.dat (encY c ls)), some (.dat (encF c g)), none] = _
  unfold Dg.b_P_is_lasting
  simp [ev_burnX k hg, bS]
theorem ev_toldX {c : Int} {ls : List Lk} (k : G c ls) {g : Int → Int} (hg : rst c ls g = false) (w : Int) : Dg.L_told [encY c ls, encF c g, .int w] = some (.ok (.str "none")) := by
  refine runF_ok rfl ?_
  show Dg.b_L_told [some (.dat (encY c ls)), some (.dat (encF c g)), some (.dat (.int w)), none, none] = _
  unfold Dg.b_L_told sTry
  rw [if_pos (show noOwn [some (.dat (encY c ls)), some (.dat (encF c g)), some (.dat (.int w)), none, none] = true from rfl)]
  by_cases hw : w = 0
  · simp [hw, ev_burnX k hg, bS]
  · simp [hw, ev_lastingX k hg, bS]
theorem ev_told0 {c : Int} {ls : List Lk} (k : G c ls) {g : Int → Int} (hg : rst c ls g = true) : Dg.L_told [encY c ls, encF c g, .int 0] = some (.ok (.tuple (encTs (burns c ls g)))) := by
  refine runF_ok rfl ?_
  show Dg.b_L_told [some (.dat (encY c ls)), some (.dat (encF c g)), some (.dat (.int 0)), none, none] = _
  unfold Dg.b_L_told sTry
  rw [if_pos (show noOwn [some (.dat (encY c ls)), some (.dat (encF c g)), some (.dat (.int 0)), none, none] = true from rfl)]
  simp [ev_burn k hg]
theorem ev_told1 {c : Int} {ls : List Lk} (k : G c ls) {g : Int → Int} (hg : rst c ls g = true) : Dg.L_told [encY c ls, encF c g, .int 1] = some (.ok (.bool (lst_ c ls g))) := by
  refine runF_ok rfl ?_
  show Dg.b_L_told [some (.dat (encY c ls)), some (.dat (encF c g)), some (.dat (.int 1)), none, none] = _
  unfold Dg.b_L_told sTry
  rw [if_pos (show noOwn [some (.dat (encY c ls)), some (.dat (encF c g)), some (.dat (.int 1)), none, none] = true from rfl)]
  simp [ev_lasting k hg]
/-! ### the law's own burning -/
def unb (c : Int) (B : List Int) : List Int := (nums c).filter fun p => !decide (p ∈ B)
theorem btw_self {ls : List Lk} (h : ∀ l ∈ ls, l.1 < l.2.1) (p : Int) : btw ls p p = 0 := by
  induction ls with
  | nil => rfl
  | cons l r ih =>
    rw [btw_cons, if_neg, ih fun m hm => h m (List.mem_cons_of_mem _ hm)]
    have := h l List.mem_cons_self
    omega
theorem su_filter {α : Type} (f : α → Int) (P : α → Bool) : ∀ xs : List α, (∀ x ∈ xs, P x = false → f x = 0) → ((xs.filter P).map f).sum = (xs.map f).sum
  | [], _ => rfl
  | x :: xs, h => by
    have ih := su_filter f P xs fun y hy => h y (List.mem_cons_of_mem _ hy)
    cases hp : P x with
    | true => rw [List.filter_cons_of_pos hp, List.map_cons, List.map_cons, List.sum_cons, List.sum_cons, ih]
    | false =>
      rw [List.filter_cons_of_neg (by rw [hp]; exact Bool.false_ne_true), List.map_cons, List.sum_cons, h x List.mem_cons_self hp, ih]
      omega
/-- what the law adds up for a place -/
def cold (c : Int) (B : List Int) (p : Int) : List Int := (nums c).filter fun o => !decide (o ∈ B) && !(o == p)
theorem cold_sum {c : Int} {ls : List Lk} (z : Z c ls) (B : List Int) (p : Int) : ((cold c B p).map fun o => Lbt ls p o).sum = ((unb c B).map fun o => btw ls p o).sum := by
  have e1 : cold c B p = (unb c B).filter fun o => !(o == p) := by
    unfold cold unb
    rw [List.filter_filter]
    refine List.filter_congr fun x _ => ?_
    rw [Bool.and_comm]
  have e2 : ((cold c B p).map fun o => Lbt ls p o) = (cold c B p).map fun o => btw ls p o := List.map_congr_left fun o _ => Lbt_eq p o ls (fun l hl => (z.rng l hl).2.1) z.dis
  rw [e2, e1]
  refine su_filter _ _ _ fun o _ h => ?_
  have : o = p := by simpa using h
  rw [this]
  exact btw_self (fun l hl => (z.rng l hl).2.1) p
theorem tn_unb {c : Int} {ls : List Lk} (g : Int → Int) (B : List Int) : tn ls g (unb c B) = (nums c).filter fun p => !decide (p ∈ B) && decide (((unb c B).map fun o => btw ls p o).sum ≤ g p) := by
  have h : ∀ Q : Int → Bool, (unb c B).filter Q = (nums c).filter fun p => !decide (p ∈ B) && Q p := fun Q => by
    unfold unb
    rw [List.filter_filter]
    refine List.filter_congr fun x _ => ?_
    rw [Bool.and_comm]
  exact h _
theorem unb_app (c : Int) (B T : List Int) : unb c (B ++ T) = rem T (unb c B) := by
  unfold unb rem
  rw [List.filter_filter]
  refine List.filter_congr fun x _ => ?_
  rw [Bool.eq_iff_iff]
  simp
  exact And.comm
structure Ctx where
  L : D
  c : Int
  ls : List Lk
  sh : Int
  g : Int → Int
def kS (X : Ctx) (s6 s7 s8 : Option Sl) (B : List Int) (Ts : List (List Int)) (T : Option Sl) (s12 s13 s14 : Option Sl) : Dn.Env :=
  [some (.dat X.L), some (.dat (encY X.c X.ls)), some (.dat (.int X.c)), some (.dat (encI X.c (sz X.ls))), some (.dat (.int X.sh)), some (.dat (encF X.c X.g)), s6, s7, s8, some (.dat (encIs B)), some (.own (encTs Ts)), T, s12, s13, s14, none, none]
noncomputable def bd_i : SF := (Dn.sSeq (Dn.sAsg (Dn.gName 13) (Dn.eComp (Dn.iRng2 (Dn.eC (.int 1)) (Dn.e2 Dn.addD (Dn.eVarW 2) (Dn.eC (.int 1)))) (Dn.gName 16) (Dn.tAndF (Dn.asB (Dn.e2 Dn.inN (Dn.eVarW 16) (Dn.eVarW 9))) (Dn.asB (Dn.e2 Dn.neD (Dn.eVarW 16) (Dn.eVarW 12)))) (Dn.eVar 16) [16]))
    (Dn.sSeq (Dn.sAsg (Dn.gName 14) (Dn.e1 Dn.sumD (Dn.eComp (Dn.iSeq (Dn.eVar 13)) (Dn.gName 16) Dn.tYesF (Dn.eCall Dg.L_between (Dn.aCons (Dn.eVar 1) (Dn.aCons (Dn.eVar 12) (Dn.aCons (Dn.eVar 16) Dn.aNil)))) [16])))
    (Dn.sIf (Dn.tAndF (Dn.asB (Dn.e2 Dn.inN (Dn.eVarW 12) (Dn.eVarW 9))) (Dn.asB (Dn.e2 Dn.geD (Dn.e2 Dn.ixD (Dn.eVarW 5) (Dn.e2 Dn.subD (Dn.eVarW 12) (Dn.eC (.int 1)))) (Dn.eVarW 14)))) (Dn.sApp 11 (Dn.eVar 12)) Dn.sNx)))
theorem st_i (X : Ctx) (z : Z X.c X.ls) (s6 s7 s8 : Option Sl) (B : List Int) (Ts : List (List Int)) (T : List Int) (hT : T.length < 1000000) (s13 s14 : Option Sl) {p : Int} (hp : p ∈ nums X.c) :
    ∃ s13' s14', bd_i (kS X s6 s7 s8 B Ts (some (.own (T.map .int))) (some (.dat (.int p))) s13 s14) = some (.nx (kS X s6 s7 s8 B Ts (some (.own ((if (!decide (p ∈ B) && decide (((unb X.c B).map fun o => btw X.ls p o).sum ≤ X.g p)) = true then T ++ [p] else T).map .int))) (some (.dat (.int p))) s13' s14')) := by
  obtain ⟨L, c, ls, sh, g⟩ := X
  have h1 := z.c1
  have h2 := z.c2
  simp only at h1 h2 hp
  have hlen : (nums c).length ≤ 1000000 := nums_small z.toG
  refine ⟨some (.dat (encIs (cold c B p))), some (.dat (.int ((unb c B).map fun o => btw ls p o).sum)), ?_⟩
  have e0 : ∀ ρ : Dn.Env, ρ[2]? = some (some (.dat (.int c))) → iRng2 (eC (.int 1)) (e2 addD (eVarW 2) (eC (.int 1))) ρ = some (.ok ((nums c).map .int)) := fun ρ hρ => by
    simp [hρ, rng_nums (c := c) (by omega) h2]
  have q1 := compL_map (g := gName 16) (t := (Dn.tAndF (Dn.asB (Dn.e2 Dn.inN (Dn.eVarW 16) (Dn.eVarW 9))) (Dn.asB (Dn.e2 Dn.neD (Dn.eVarW 16) (Dn.eVarW 12))))) (f := eVar 16) PyData.int [some (.dat L), some (.dat (encY c ls)), some (.dat (.int c)), some (.dat (encI c (sz ls))), some (.dat (.int sh)), some (.dat (encF c g)), s6, s7, s8, some (.dat (encIs B)), some (.own (encTs Ts)), some (.own (T.map .int)), some (.dat (.int p)), s13, s14, none, none] (fun o => !decide (o ∈ B) && !(o == p)) .int (nums c) (fun o ho => ⟨[some (.dat L), some (.dat (encY c ls)), some (.dat (.int c)), some (.dat (encI c (sz ls))), some (.dat (.int sh)), some (.dat (encF c g)), s6, s7, s8, some (.dat (encIs B)), some (.own (encTs Ts)), some (.own (T.map .int)), some (.dat (.int p)), s13, s14, none, some (.dat (.int o))], by simp, by
    by_cases hB : o ∈ B
    · simp [tAndF, ninIs, hB]
    · simp [tAndF, ninIs, hB], fun _ => by simp⟩)
  have q2 := compL_all (g := gName 16) (f := (Dn.eCall Dg.L_between (Dn.aCons (Dn.eVar 1) (Dn.aCons (Dn.eVar 12) (Dn.aCons (Dn.eVar 16) Dn.aNil))))) PyData.int [some (.dat L), some (.dat (encY c ls)), some (.dat (.int c)), some (.dat (encI c (sz ls))), some (.dat (.int sh)), some (.dat (encF c g)), s6, s7, s8, some (.dat (encIs B)), some (.own (encTs Ts)), some (.own (T.map .int)), some (.dat (.int p)), some (.dat (encIs (cold c B p))), s14, none, none] (fun o => .int (Lbt ls p o)) (cold c B p) (fun o ho => ⟨[some (.dat L), some (.dat (encY c ls)), some (.dat (.int c)), some (.dat (encI c (sz ls))), some (.dat (.int sh)), some (.dat (encF c g)), s6, s7, s8, some (.dat (encIs B)), some (.own (encTs Ts)), some (.own (T.map .int)), some (.dat (.int p)), some (.dat (encIs (cold c B p))), s14, none, some (.dat (.int o))], by simp, by simp [ev_Lbt z.toG]⟩)
  have hm : ((cold c B p).map fun o => PyData.int (Lbt ls p o)) = ((cold c B p).map fun o => Lbt ls p o).map .int := by
    rw [List.map_map]
    rfl
  have hcl : (cold c B p).length ≤ 1000000 := Nat.le_trans (List.length_filter_le _ _) hlen
  unfold bd_i kS
  simp only
  rw [seq_nx (ρ' := [some (.dat L), some (.dat (encY c ls)), some (.dat (.int c)), some (.dat (encI c (sz ls))), some (.dat (.int sh)), some (.dat (encF c g)), s6, s7, s8, some (.dat (encIs B)), some (.own (encTs Ts)), some (.own (T.map .int)), some (.dat (.int p)), some (.dat (encIs (cold c B p))), s14, none, none]) (by
    simp only [ev_sAsg, ev_comp]
    rw [e0 _ rfl]
    simp only [bnd_ok, List.length_map, if_pos hlen, ev_wipe0, ev_wipe1, List.set_cons_succ, List.set_cons_zero]
    rw [q1]
    rfl)]
  rw [seq_nx (ρ' := [some (.dat L), some (.dat (encY c ls)), some (.dat (.int c)), some (.dat (encI c (sz ls))), some (.dat (.int sh)), some (.dat (encF c g)), s6, s7, s8, some (.dat (encIs B)), some (.own (encTs Ts)), some (.own (T.map .int)), some (.dat (.int p)), some (.dat (encIs (cold c B p))), some (.dat (.int ((unb c B).map fun o => btw ls p o).sum)), none, none]) (by
    simp only [ev_sAsg, ev_e1, ev_comp, ev_iSeq, ev_var, List.getElem?_cons_succ, List.getElem?_cons_zero, ev_ret, bnd_ok]
    show bS (bnd (bnd (lft (some ((cold c B p).map PyData.int))) _) _) _ = _
    simp only [lft_some, bnd_ok, List.length_map, if_pos hcl, ev_wipe0, ev_wipe1, List.set_cons_succ, List.set_cons_zero]
    rw [q2, hm]
    simp only [bnd_ok, ev_ret, ev_sum, lft_some, cold_sum z B p]
    rfl)]
  by_cases hB : p ∈ B
  · simp [tAndF, ninIs, hB]
  · by_cases hs : ((unb c B).map fun o => btw ls p o).sum ≤ g p
    · have hT' : T.length < 1000000 := hT
      simp [tAndF, ninIs, hB, ixF g hp, hs, hT']
    · simp [tAndF, ninIs, hB, ixF g hp, hs]
theorem filt_fold (P : Int → Bool) : ∀ (xs T : List Int), xs.foldl (fun T p => if P p = true then T ++ [p] else T) T = T ++ xs.filter P
  | [], T => by simp
  | x :: xs, T => by
    rw [List.foldl_cons, filt_fold P xs]
    cases h : P x with
    | true => simp [List.filter_cons_of_pos h]
    | false => simp [List.filter_cons_of_neg (p := P) (a := x) (l := xs) (by rw [h]; exact Bool.false_ne_true)]
noncomputable def bd_o : SF := (Dn.sSeq (Dn.sOwn 11 (Dn.eLst Dn.aNil))
    (Dn.sSeq (Dn.sFor (Dn.iRng2 (Dn.eC (.int 1)) (Dn.e2 Dn.addD (Dn.eVarW 2) (Dn.eC (.int 1)))) (Dn.gName 12) bd_i)
    (Dn.sSeq (Dn.sIf (Dn.asB (Dn.e2 Dn.neD (Dn.eVarW 11) (Dn.eLst Dn.aNil))) (Dn.sApp 10 (Dn.e1 Dn.tupD (Dn.eVarW 11))) Dn.sNx)
    (Dn.sAsg (Dn.gName 9) (Dn.e2 Dn.addD (Dn.eVarW 9) (Dn.eVarW 11))))))
theorem eqNil (ns : List Int) : eqD (.list (ns.map .int)) (.list []) = some (.bool ns.isEmpty) := by
  unfold eqD
  have h1 : okD (.list (ns.map .int)) = true := by
    unfold okD
    simp [PyData.plain, PyData.depth, plainG, depthG]
  have h2 : okD (.list []) = true := by
    unfold okD
    simp [PyData.plain, PyData.plainAll, PyData.depth, PyData.depthAll]
  rw [h1, h2]
  cases ns with
  | nil => simp [PyData.eqv, PyData.eqvAll]
  | cons n ns => simp [PyData.eqv, PyData.eqvAll]
theorem neNil (ns : List Int) : neD (.list (ns.map .int)) (.list []) = some (.bool (!ns.isEmpty)) := by
  have h := eqNil ns
  unfold eqD at h
  unfold neD
  split at h
  · rename_i q
    rw [if_pos q]
    injection h with h
    injection h with h
    rw [h]
  · cases h
theorem st_o (X : Ctx) (z : Z X.c X.ls) (s6 s7 s8 : Option Sl) (B : List Int) (hB : B.length ≤ 20000) (Ts : List (List Int)) (hTs : Ts.length ≤ 1000) (s11 s12 s13 s14 : Option Sl) :
    ∃ s11' s12' s13' s14', bd_o (kS X s6 s7 s8 B Ts s11 s12 s13 s14) = some (.nx (kS X s6 s7 s8 (B ++ tn X.ls X.g (unb X.c B)) (if tn X.ls X.g (unb X.c B) = [] then Ts else Ts ++ [tn X.ls X.g (unb X.c B)]) s11' s12' s13' s14')) := by
  have h1 := z.c1
  have h2 := z.c2
  have hn : (nums X.c).length ≤ 100 := by rw [nums_len]; omega
  let P : Int → Bool := fun p => !decide (p ∈ B) && decide (((unb X.c B).map fun o => btw X.ls p o).sum ≤ X.g p)
  have hP : tn X.ls X.g (unb X.c B) = (nums X.c).filter P := tn_unb X.g B
  obtain ⟨ρ', hf, s12', s13', s14', rfl⟩ := forL_I (g := gName 12) (b := bd_i) PyData.int (fun pre ρ => ∃ s12 s13 s14, ρ = kS X s6 s7 s8 B Ts (some (.own ((pre.filter P).map .int))) s12 s13 s14) (nums X.c) [] (kS X s6 s7 s8 B Ts (some (.own [])) s12 s13 s14) ⟨_, _, _, rfl⟩ (by
    rintro pr x po ρ hp ⟨s12, s13, s14, rfl⟩
    rw [List.nil_append] at hp
    have hx : x ∈ nums X.c := by
      rw [hp]
      simp
    have hpl : pr.length < (nums X.c).length := by
      rw [hp, List.length_append, List.length_cons]
      omega
    have hfl := List.length_filter_le P pr
    obtain ⟨a, b, hb⟩ := st_i X z s6 s7 s8 B Ts (pr.filter P) (by omega) s13 s14 hx
    refine ⟨_, _, rfl, hb, some (.dat (.int x)), a, b, ?_⟩
    have : (if P x = true then pr.filter P ++ [x] else pr.filter P) = (pr ++ [x]).filter P := by
      rw [List.filter_append]
      cases hPx : P x with
      | true => simp [List.filter_cons_of_pos hPx]
      | false => simp [List.filter_cons_of_neg (p := P) (a := x) (l := []) (by rw [hPx]; exact Bool.false_ne_true)]
    rw [← this])
  rw [List.nil_append] at hf
  rw [← hP] at hf
  have hTl : (tn X.ls X.g (unb X.c B)).length ≤ 100 := by
    rw [hP]
    exact Nat.le_trans (List.length_filter_le _ _) hn
  generalize tn X.ls X.g (unb X.c B) = T at hf hTl
  refine ⟨some (.own (T.map .int)), s12', s13', s14', ?_⟩
  have e0 : iRng2 (eC (.int 1)) (e2 addD (eVarW 2) (eC (.int 1))) (kS X s6 s7 s8 B Ts (some (.own [])) s12 s13 s14) = some (.ok ((nums X.c).map .int)) := by
    simp [kS, rng_nums (c := X.c) (by omega) h2]
  unfold bd_o
  rw [seq_nx (ρ' := kS X s6 s7 s8 B Ts (some (.own [])) s12 s13 s14) rfl]
  rw [seq_nx (by
    rw [ev_sFor, e0]
    exact hf)]
  have hadd : addD (encIs B) (.list (T.map .int)) = some (encIs (B ++ T)) := by
    have sl : (30000 : Nat) ≤ PySem.sizeLine := by decide
    show (if (B.map PyData.int).length + (T.map PyData.int).length ≤ PySem.sizeLine then _ else none) = _
    rw [if_pos (by rw [List.length_map, List.length_map]; omega), ← List.map_append]
    rfl
  by_cases h : T = []
  · rw [if_pos h]
    rw [seq_nx (ρ' := kS X s6 s7 s8 B Ts (some (.own (T.map .int))) s12' s13' s14') (by
      subst h
      have := neNil []
      simp only [List.map_nil] at this
      simp [kS, this])]
    simp [kS, hadd]
  · rw [if_neg h]
    have hE : (encTs Ts).length < 1000000 := by
      unfold encTs
      rw [List.length_map]
      omega
    have hne : T.isEmpty = false := by
      cases T with
      | nil => exact absurd rfl h
      | cons x xs => rfl
    have eT : encTs (Ts ++ [T]) = encTs Ts ++ [.tuple (T.map .int)] := by
      unfold encTs
      rw [List.map_append]
      rfl
    rw [seq_nx (ρ' := kS X s6 s7 s8 B (Ts ++ [T]) (some (.own (T.map .int))) s12' s13' s14') (by
      unfold kS
      rw [eT]
      simp [neNil, hne, hE])]
    simp [kS, hadd]
theorem brn_nil {ls : List Lk} {g : Int → Int} {L : List Int} (h : tn ls g L = []) : ∀ n, brn ls g n L = []
  | 0 => rfl
  | n + 1 => by
    unfold brn
    rw [if_pos h]
theorem lp_o (X : Ctx) (z : Z X.c X.ls) (s7 s8 : Option Sl) : ∀ (xs : List D) (s6 : Option Sl) (B : List Int) (Ts : List (List Int)) (s11 s12 s13 s14 : Option Sl), B.length + 100 * xs.length ≤ 20000 → Ts.length + xs.length ≤ 1000 →
    ∃ s6' s11' s12' s13' s14' B', forL (gName 6) bd_o xs (kS X s6 s7 s8 B Ts s11 s12 s13 s14) = some (.nx (kS X s6' s7 s8 B' (Ts ++ brn X.ls X.g xs.length (unb X.c B)) s11' s12' s13' s14')) ∧ (B'.length : Int) = B.length + ((brn X.ls X.g xs.length (unb X.c B)).map fun T => (T.length : Int)).sum
  | [], s6, B, Ts, s11, s12, s13, s14, _, _ => ⟨s6, s11, s12, s13, s14, B, by
      show some (SOut.nx _) = _
      rw [show brn X.ls X.g ([] : List D).length (unb X.c B) = [] from rfl, List.append_nil], by
      show (B.length : Int) = B.length + 0
      omega⟩
  | x :: xs, s6, B, Ts, s11, s12, s13, s14, h1, h2 => by
    rw [List.length_cons] at h1 h2
    have hn : (nums X.c).length ≤ 100 := by
      have := z.c2
      rw [nums_len]
      omega
    obtain ⟨a11, a12, a13, a14, hb⟩ := st_o X z (some (.dat x)) s7 s8 B (by omega) Ts (by omega) s11 s12 s13 s14
    have hTl : (tn X.ls X.g (unb X.c B)).length ≤ 100 := Nat.le_trans (List.length_filter_le _ _) (Nat.le_trans (List.length_filter_le _ _) hn)
    obtain ⟨b6, b11, b12, b13, b14, B', hr, hl⟩ := lp_o X z s7 s8 xs (some (.dat x)) (B ++ tn X.ls X.g (unb X.c B)) (if tn X.ls X.g (unb X.c B) = [] then Ts else Ts ++ [tn X.ls X.g (unb X.c B)]) a11 a12 a13 a14 (by rw [List.length_append]; omega) (by
      split
      · omega
      · rw [List.length_append, List.length_singleton]
        omega)
    refine ⟨b6, b11, b12, b13, b14, B', ?_, ?_⟩
    · unfold forL
      have e1 : gName 6 x (kS X s6 s7 s8 B Ts s11 s12 s13 s14) = some (kS X (some (.dat x)) s7 s8 B Ts s11 s12 s13 s14) := rfl
      rw [e1]
      simp only
      rw [hb]
      simp only
      rw [hr, unb_app]
      congr 3
      rw [List.length_cons]
      by_cases h : tn X.ls X.g (unb X.c B) = []
      · rw [if_pos h, brn_nil h, h]
        have hrem : rem [] (unb X.c B) = unb X.c B := by
          unfold rem
          exact List.filter_eq_self.mpr fun _ _ => by simp
        rw [hrem, brn_nil h]
      · rw [if_neg h]
        conv => rhs; unfold brn
        rw [if_neg h, List.append_assoc]
        rfl
    · rw [hl, unb_app, List.length_append, List.length_cons]
      by_cases h : tn X.ls X.g (unb X.c B) = []
      · rw [brn_nil h, h]
        have hrem : rem [] (unb X.c B) = unb X.c B := by
          unfold rem
          exact List.filter_eq_self.mpr fun _ _ => by simp
        rw [hrem, brn_nil h]
        simp
      · conv => rhs; unfold brn
        rw [if_neg h, List.map_cons, List.sum_cons]
        omega
/-! equality of burns -/
theorem plainTs : ∀ Ts : List (List Int), PyData.plainAll (encTs Ts) = true
  | [] => rfl
  | T :: Ts => by
    have ih := plainTs Ts
    unfold encTs at ih ⊢
    rw [List.map_cons]
    simp [PyData.plainAll, PyData.plain, plainG, ih]
theorem depthTs : ∀ Ts : List (List Int), PyData.depthAll (encTs Ts) ≤ 1
  | [] => Nat.zero_le _
  | T :: Ts => by
    have ih := depthTs Ts
    unfold encTs at ih ⊢
    rw [List.map_cons]
    simp [PyData.depthAll, PyData.depth, depthG, ih]
theorem eqvTs : ∀ Ts : List (List Int), PyData.eqvAll (encTs Ts) (encTs Ts) = true
  | [] => rfl
  | T :: Ts => by
    have ih := eqvTs Ts
    unfold encTs at ih ⊢
    rw [List.map_cons]
    simp [PyData.eqvAll, PyData.eqv, eqvG, ih]
theorem eqTs (Ts : List (List Int)) : eqD (.tuple (encTs Ts)) (.tuple (encTs Ts)) = some (.bool true) := by
  unfold eqD
  have h := depthTs Ts
  have : okD (.tuple (encTs Ts)) = true := by
    unfold okD
    simp [PyData.plain, PyData.depth, plainTs]
    omega
  rw [this]
  simp [PyData.eqv, eqvTs]
theorem eqBl (a b : Bool) : eqD (.bool a) (.bool b) = some (.bool (a == b)) := by
  cases a <;> cases b <;> rfl
theorem law_body (ns : List Int) : Dg.b_P_law [some (.dat (.list (ns.map .int))), none, none, none, none, none, none, none, none, none, none, none, none, none, none, none, none] = some (.rt (.bool true)) := by
  have m0 : Dg.L_mixed [.list (ns.map .int), .int 0] = some (.ok (.int (mx ns 0))) := ev_mx ns 0
  have m1 : Dg.L_mixed [.list (ns.map .int), .int 1] = some (.ok (.int (mx ns 1))) := ev_mx ns 1
  have m2 : Dg.L_mixed [.list (ns.map .int), .int 2] = some (.ok (.int (mx ns 2))) := ev_mx ns 2
  have m3 : Dg.L_mixed [.list (ns.map .int), .int 3] = some (.ok (.int (mx ns 3))) := ev_mx ns 3
  obtain ⟨c, ls, hc1, hc2, z, hy⟩ := ev_yard (mx ns 0) (m := 5) (w := 4) (by decide) (by decide)
  have hs := ev_Lsizes z (by omega)
  have k := z.toG
  generalize PyData.list (ns.map PyData.int) = L at m0 m1 m2 m3 ⊢
  generalize mx ns 1 = v1 at m1
  generalize mx ns 2 = v2 at m2
  generalize mx ns 3 = v3 at m3
  have hlen := nums_small k
  obtain ⟨sh, hsh1, hsh2, hsx⟩ : ∃ sh : Int, 0 < sh ∧ sh < 1073741824 ∧ ixD (.list [.int 1, .int 1, .int 2, .int 3]) (.int (v2 % 4)) = some (.int sh) := by
    have h0 := Int.emod_nonneg v2 (b := 4) (by decide)
    have h1 := Int.emod_lt_of_pos v2 (b := 4) (by decide)
    have : v2 % 4 = 0 ∨ v2 % 4 = 1 ∨ v2 % 4 = 2 ∨ v2 % 4 = 3 := by omega
    rcases this with e | e | e | e <;> rw [e]
    · exact ⟨1, by decide, by decide, rfl⟩
    · exact ⟨1, by decide, by decide, rfl⟩
    · exact ⟨2, by decide, by decide, rfl⟩
    · exact ⟨3, by decide, by decide, rfl⟩
  let g : Int → Int := fun p => sz ls p - 1 - dr v1 (p - 1) % sz ls p / sh
  have hg : rst c ls g = true := List.all_eq_true.mpr fun p hp => decide_eq_true (by
    have h0 := z.s1 p hp
    have h1 := Int.emod_nonneg (dr v1 (p - 1)) (b := sz ls p) (by omega)
    have h2 : 0 ≤ dr v1 (p - 1) % sz ls p / sh := Int.ediv_nonneg h1 (by omega)
    show sz ls p - 1 - dr v1 (p - 1) % sz ls p / sh < sz ls p
    omega)
  unfold Dg.b_P_law
  rw [seq_nx (ρ' := [some (.dat L), some (.dat (encY c ls)), none, none, none, none, none, none, none, none, none, none, none, none, none, none, none]) (by
    simp [m0, hy])]
  rw [seq_nx (ρ' := [some (.dat L), some (.dat (encY c ls)), some (.dat (.int c)), none, none, none, none, none, none, none, none, none, none, none, none, none, none]) (by
    simp [encY])]
  rw [seq_nx (ρ' := [some (.dat L), some (.dat (encY c ls)), some (.dat (.int c)), some (.dat (encI c (sz ls))), none, none, none, none, none, none, none, none, none, none, none, none, none]) (by
    simp [hs])]
  rw [seq_nx (ρ' := [some (.dat L), some (.dat (encY c ls)), some (.dat (.int c)), some (.dat (encI c (sz ls))), some (.dat (.int sh)), none, none, none, none, none, none, none, none, none, none, none, none]) (by
    simp [m2, hsx])]
  rw [seq_nx (ρ' := [some (.dat L), some (.dat (encY c ls)), some (.dat (.int c)), some (.dat (encI c (sz ls))), some (.dat (.int sh)), some (.dat (.tuple [])), none, none, none, none, none, none, none, none, none, none, none]) rfl]
  have e0 : iEnumA (eVar 3) [some (.dat L), some (.dat (encY c ls)), some (.dat (.int c)), some (.dat (encI c (sz ls))), some (.dat (.int sh)), some (.dat (.tuple [])), none, none, none, none, none, none, none, none, none, none, none] = some (.ok ((nums c).map fun p => .tuple [.int (p - 1), .int (sz ls p)])) := by
    simp [iEnumA, enumI]
  have hn : (nums c).length ≤ 100 := by
    rw [nums_len]
    omega
  have sl : (1000 : Nat) ≤ PySem.sizeLine := by decide
  obtain ⟨ρ', hf, s6, s7, rfl⟩ := forL_I (g := gTup [6, 7]) (b := (Dn.sAsg (Dn.gName 5) (Dn.e2 Dn.addD (Dn.eVarW 5) (Dn.eTup (Dn.aCons (Dn.e2 Dn.subD (Dn.e2 Dn.subD (Dn.eVarW 7) (Dn.eC (.int 1))) (Dn.e2 Dn.fdivD (Dn.e2 Dn.modD (Dn.eCall Dg.L_drawn (Dn.aCons (Dn.eCall Dg.L_mixed (Dn.aCons (Dn.eVar 0) (Dn.aCons (Dn.eC (.int 1)) Dn.aNil))) (Dn.aCons (Dn.eVar 6) Dn.aNil))) (Dn.eVarW 7)) (Dn.eVarW 4))) Dn.aNil))))) (fun p => PyData.tuple [.int (p - 1), .int (sz ls p)]) (fun pre ρ => ∃ s6 s7, ρ = [some (.dat L), some (.dat (encY c ls)), some (.dat (.int c)), some (.dat (encI c (sz ls))), some (.dat (.int sh)), some (.dat (.tuple (pre.map fun p => .int (g p)))), s6, s7, none, none, none, none, none, none, none, none, none]) (nums c) [] _ ⟨none, none, rfl⟩ (by
    rintro pr x po ρ hp ⟨s6, s7, rfl⟩
    rw [List.nil_append] at hp
    have hx : x ∈ nums c := by
      rw [hp]
      simp
    have hpl : pr.length < (nums c).length := by
      rw [hp, List.length_append, List.length_cons]
      omega
    refine ⟨_, _, rfl, ?_, some (.dat (.int (x - 1))), some (.dat (.int (sz ls x))), rfl⟩
    have hpos : 0 < sz ls x := by
      have := z.s1 x hx
      omega
    have hfd : fdivD (.int (dr v1 (x - 1) % sz ls x)) (.int sh) = some (.int (dr v1 (x - 1) % sz ls x / sh)) := if_pos ⟨hsh1, hsh2⟩
    have hadd : addD (.tuple (pr.map fun p => .int (g p))) (.tuple [.int (sz ls x - 1 - dr v1 (x - 1) % sz ls x / sh)]) = some (.tuple ((pr ++ [x]).map fun p => .int (g p))) := by
      show (if (pr.map fun p => PyData.int (g p)).length + 1 ≤ PySem.sizeLine then _ else none) = _
      rw [if_pos (by rw [List.length_map]; omega), List.map_append]
      rfl
    simp [m1, ev_drawn, hpos, hfd, hadd])
  rw [seq_nx (ρ' := [some (.dat L), some (.dat (encY c ls)), some (.dat (.int c)), some (.dat (encI c (sz ls))), some (.dat (.int sh)), some (.dat (encF c g)), s6, s7, none, none, none, none, none, none, none, none, none]) (by
    rw [ev_sFor, e0]
    rw [encF_LI]
    exact hf)]
  clear_value g
  have hstr : eqD (.str "none") (.str "none") = some (.bool true) := by rfl
  by_cases hodd : v3 % 5 = 1
  · refine seq_rt ?_
    generalize ha : v3 / 5 % c = a
    have hab : 0 ≤ a ∧ a < c := by
      rw [← ha]
      exact ⟨Int.emod_nonneg _ (by omega), Int.emod_lt_of_pos _ (by omega)⟩
    have hp : a + 1 ∈ nums c := mem_nums.mpr ⟨by omega, by omega⟩
    have hcp : 0 < c := by omega
    have f5 : fdivD (.int v3) (.int 5) = some (.int (v3 / 5)) := rfl
    have f25 : fdivD (.int v3) (.int 25) = some (.int (v3 / 25)) := rfl
    obtain ⟨x, y, q1, q2, q3, q4⟩ := put_at (c := c) (p := a + 1) (by omega) g (sz ls (a + 1) + v3 / 25 % 3) hp
    rw [show a + 1 - 1 = a from by omega] at q1
    have hix := encI_ix (sz ls) hp
    rw [show a + 1 - 1 = a from by omega] at hix
    have hbad : rst c ls (fun q => if q = a + 1 then sz ls (a + 1) + v3 / 25 % 3 else g q) = false := by
      refine Bool.eq_false_iff.mpr fun hr => ?_
      have := of_decide_eq_true (List.all_eq_true.mp hr (a + 1) hp)
      simp only [if_true] at this
      have := Int.emod_nonneg (v3 / 25) (b := 3) (by decide)
      omega
    simp [m3, hodd, f5, f25, hcp, ha, eCut, oNo, oInt, intOf, q1, q2, q3, q4, hix, ev_toldX k hbad, hstr]
  · rw [seq_nx (ρ' := [some (.dat L), some (.dat (encY c ls)), some (.dat (.int c)), some (.dat (encI c (sz ls))), some (.dat (.int sh)), some (.dat (encF c g)), s6, s7, none, none, none, none, none, none, none, none, none]) (by
      have : ¬ (v3 % 5 = 1) := hodd
      simp [m3, this])]
    rw [seq_nx (ρ' := [some (.dat L), some (.dat (encY c ls)), some (.dat (.int c)), some (.dat (encI c (sz ls))), some (.dat (.int sh)), some (.dat (encF c g)), s6, s7, none, some (.dat (encIs [0])), none, none, none, none, none, none, none]) (by
      simp [encIs])]
    rw [seq_nx (ρ' := kS ⟨L, c, ls, sh, g⟩ s6 s7 none [0] [] none none none none) rfl]
    obtain ⟨b6, b11, b12, b13, b14, B', hr, hBl⟩ := lp_o ⟨L, c, ls, sh, g⟩ z s7 none ((nums (c + 1)).map fun p => .int (p - 1)) s6 [0] [] none none none none (by rw [List.length_map, nums_len]; simp; omega) (by rw [List.length_map, nums_len]; simp; omega)
    have er : iRng1 (e2 addD (eVarW 2) (eC (.int 1))) (kS ⟨L, c, ls, sh, g⟩ s6 s7 none [0] [] none none none none) = some (.ok ((nums (c + 1)).map fun p => .int (p - 1))) := by
      simp [kS, rng0 (c := c + 1) (by omega) (by omega)]
    unfold bd_o bd_i at hr
    rw [seq_nx (by
      rw [ev_sFor, er]
      exact hr)]
    have hunb : unb c [0] = nums c := List.filter_eq_self.mpr fun p hp => by
      have := mem_nums.mp hp
      simp
      omega
    have hbr : brn ls g ((nums (c + 1)).map fun p => PyData.int (p - 1)).length (unb c [0]) = burns c ls g := by
      rw [hunb, List.length_map, nums_len]
      unfold burns
      congr 1
      omega
    simp only at hBl hbr ⊢
    rw [hbr] at hBl
    rw [hbr, List.nil_append]
    have hl1 : (B'.length : Int) = 1 + ((burns c ls g).map fun T => (T.length : Int)).sum := by
      rw [hBl]
      rfl
    have hlast : (B'.length : Int) = c + 1 ↔ lst_ c ls g = true := by
      unfold lst_
      rw [beq_iff_eq, hl1]
      omega
    rw [seq_nx (ρ' := (kS ⟨L, c, ls, sh, g⟩ b6 s7 none B' (burns c ls g) b11 b12 b13 b14).set 15 (some (.dat (.bool (lst_ c ls g))))) (by
      simp [kS, ev_told1 k hg])]
    have hfin : (lst_ c ls g == decide ((B'.length : Int) = c + 1)) = true := by
      rw [beq_iff_eq, Bool.eq_iff_iff, decide_eq_true_eq]
      exact hlast.symm
    have hlen' : lenD (encIs B') = some (.int B'.length) := by
      unfold encIs
      show some (PyData.int ((B'.map PyData.int).length : Int)) = _
      rw [List.length_map]
    have hbeq : ((B'.length : Int) == c + 1) = decide ((B'.length : Int) = c + 1) := rfl
    simp [kS, ev_told0 k hg, eqTs, isiD, hlen', eqBl]
    rw [Bool.eq_iff_iff, beq_iff_eq]
    exact hlast.symm
end Pe
theorem Wk.law_true (ns : List Int) (hl : ns.length ≤ 63) : Dn.noX (Dn.runF 1 17 Dg.b_P_law) [.list (ns.map .int)] = some (.ok (.bool true)) := Pe.runF_ok rfl (Pe.law_body ns)

set_option maxHeartbeats 8800000
namespace Wk
open PySem PySem.Spec PyProof.Rows L2 Dw
def topS (i : Nat) : Stmt := PySem.Challenge.pw_sandyard_k20_burns.main.body.getD i (.Pass ⟨0, 0, 0, 0⟩)
abbrev s__law_drawn : Stmt := topS 18
abbrev N__law_drawn : List Str := ["_law_number", "_law_k", "_law_drawn_here"]
theorem sc__law_drawn : FnScope N__law_drawn ["_law_number", "_law_k"] (defScope s__law_drawn) := ⟨rfl, rfl, rfl, by decide +kernel, rfl, by decide +kernel, by decide +kernel⟩
abbrev s__law_yard : Stmt := topS 19
abbrev N__law_yard : List Str := ["_law_number", "_law_most", "_law_wide", "_law_count", "_law_found", "_law_place", "_law_k", "_law_low", "_law_high", "_law_names", "_law_at", "_law_links", "_law_one", "_law_other"]
theorem sc__law_yard : FnScope N__law_yard ["_law_number", "_law_most", "_law_wide"] (defScope s__law_yard) := ⟨rfl, rfl, rfl, by decide +kernel, rfl, by decide +kernel, by decide +kernel⟩
abbrev s__law_between : Stmt := topS 21
abbrev N__law_between : List Str := ["_law_yard_here", "_law_one", "_law_other", "_law_low", "_law_high", "_law_many"]
theorem sc__law_between : FnScope N__law_between ["_law_yard_here", "_law_one", "_law_other"] (defScope s__law_between) := ⟨rfl, rfl, rfl, by decide +kernel, rfl, by decide +kernel, by decide +kernel⟩
abbrev s__law_sizes : Stmt := topS 22
abbrev N__law_sizes : List Str := ["_law_yard_here", "_law_found", "_law_place", "_law_other"]
theorem sc__law_sizes : FnScope N__law_sizes ["_law_yard_here"] (defScope s__law_sizes) := ⟨rfl, rfl, rfl, by decide +kernel, rfl, by decide +kernel, by decide +kernel⟩
abbrev s_sizes : Stmt := topS 9
abbrev N_sizes : List Str := ["yard", "found", "place", "low", "high", "many"]
theorem sc_sizes : FnScope N_sizes ["yard"] (defScope s_sizes) := ⟨rfl, rfl, rfl, by decide +kernel, rfl, by decide +kernel, by decide +kernel⟩
abbrev s_rests : Stmt := topS 11
abbrev N_rests : List Str := ["yard", "grains", "part", "size"]
theorem sc_rests : FnScope N_rests ["yard", "grains"] (defScope s_rests) := ⟨rfl, rfl, rfl, by decide +kernel, rfl, by decide +kernel, by decide +kernel⟩
abbrev s_between : Stmt := topS 8
abbrev N_between : List Str := ["yard", "one", "other", "low", "high", "many"]
theorem sc_between : FnScope N_between ["yard", "one", "other"] (defScope s_between) := ⟨rfl, rfl, rfl, by decide +kernel, rfl, by decide +kernel, by decide +kernel⟩
abbrev s_burn : Stmt := topS 13
abbrev N_burn : List Str := ["yard", "grains", "left", "found", "more", "turn", "place", "other"]
theorem sc_burn : FnScope N_burn ["yard", "grains"] (defScope s_burn) := ⟨rfl, rfl, rfl, by decide +kernel, rfl, by decide +kernel, by decide +kernel⟩
abbrev s_is_lasting : Stmt := topS 14
abbrev N_is_lasting : List Str := ["yard", "grains", "turn"]
theorem sc_is_lasting : FnScope N_is_lasting ["yard", "grains"] (defScope s_is_lasting) := ⟨rfl, rfl, rfl, by decide +kernel, rfl, by decide +kernel, by decide +kernel⟩
abbrev s__law_told : Stmt := topS 23
abbrev N__law_told : List Str := ["_law_yard_here", "_law_grains_here", "_law_which", "e", "_law_some"]
theorem sc__law_told : FnScope N__law_told ["_law_yard_here", "_law_grains_here", "_law_which"] (defScope s__law_told) := ⟨rfl, rfl, rfl, by decide +kernel, rfl, by decide +kernel, by decide +kernel⟩
abbrev s__law_cell_at : Stmt := topS 16
abbrev N__law_cell_at : List Str := ["_law_script", "_law_k"]
theorem sc__law_cell_at : FnScope N__law_cell_at ["_law_script", "_law_k"] (defScope s__law_cell_at) := ⟨rfl, rfl, rfl, by decide +kernel, rfl, by decide +kernel, by decide +kernel⟩
abbrev s__law_mixed : Stmt := topS 17
abbrev N__law_mixed : List Str := ["_law_script", "_law_k", "_law_drawn_here"]
theorem sc__law_mixed : FnScope N__law_mixed ["_law_script", "_law_k"] (defScope s__law_mixed) := ⟨rfl, rfl, rfl, by decide +kernel, rfl, by decide +kernel, by decide +kernel⟩
abbrev s_law : Stmt := topS 24
abbrev N_law : List Str := ["_law_script", "_law_yard_here", "_law_count", "_law_bounds", "_law_share", "_law_grains_here", "_law_k", "_law_size", "_law_at", "_law_burnt", "_law_due", "_law_turn", "_law_place", "_law_cold", "_law_left", "_law_found", "_law_other"]
theorem sc_law : FnScope N_law ["_law_script"] (defScope s_law) := ⟨rfl, rfl, rfl, by decide +kernel, rfl, by decide +kernel, by decide +kernel⟩
structure Bt (K : PySem.W.Frag) (cl : Str → Value) (mg : Str → Option Value) : Prop where
  r_NoRest : ∃ C, XR K mg "NoRest" C ∧ cl "NoRest" = .ref C
  s_NoRest : ∃ C A1 A2 A3 A4 S, mg "NoRest" = some (.ref C) ∧ cl "NoRest" = .ref C ∧ PySem.W.exmOne K (.ref C) (.ref C) = some true ∧ ExcC K C ∧ XS K C A1 A2 A3 A4 S ∧ mg "NoYard" = some (.ref A1) ∧ mg "NoText" = some (.ref A2) ∧ mg "NoTumble" = some (.ref A3) ∧ mg "NotLasting" = some (.ref A4) ∧ mg "SandError" = some (.ref S)
  h_NoRest_NoRest : ∃ C H, mg "NoRest" = some (.ref H) ∧ cl "NoRest" = .ref C ∧ PySem.W.exmOne K (.ref C) (.ref H) = some true
  ValueError : mg "ValueError" = none
  all : mg "all" = none
  any : mg "any" = none
  bool : mg "bool" = none
  enumerate : mg "enumerate" = none
  int : mg "int" = none
  isinstance : mg "isinstance" = none
  len : mg "len" = none
  list : mg "list" = none
  max : mg "max" = none
  min : mg "min" = none
  range : mg "range" = none
  sorted : mg "sorted" = none
  sum : mg "sum" = none
  tuple : mg "tuple" = none
  zip : mg "zip" = none
section
variable {P : Program} {w : World} {K : PySem.W.Frag} {mg : Str → Option Value} {base : Heap} {cl : Str → Value}
theorem rd__law_drawn (T : Bt K cl mg)  {f : Addr} {cdv : Value} {A : Around} {outer : List Env} {s : Shared} {H : Hp} {E : XK} (hr : Room 0 (A.deeper (envOfC "_law_drawn" (defScope s__law_drawn) s.heap.objs.size f cdv))) :
    ∃ t, PSs (cxOf CX0 P w K mg base N__law_drawn "_law_drawn" (defScope s__law_drawn) f cdv A outer s H E).nox (defBody s__law_drawn) t ∧ RdS K cl E0 t Dg.b_L_drawn := by
  have sc := sc__law_drawn
  exact ⟨_, (pss_cons (ps_set (i := 2) sc.nd rfl (.inl rfl) (pe_op op_modX (pe_op op_mulX (pe_op op_addX (pe_op op_addX (pv 0) (pe_op op_mulX pe_int (pv 1))) pe_int) pe_int) pe_int))
      (pss_one (ps_ret (pe_op op_modX (pe_op op_addX (pe_op op_addX (pe_op op_mulX (pv 2) (pv 2)) (pe_op op_mulX pe_int (pv 2))) (pv 1)) pe_int)))),
      (rds_seq (rds_asg (rd_op (Rd.w (rd_op (Rd.w (rd_op (Rd.w (rd_op (rdw_var 0) (Rd.w (rd_op (Rd.w (rd_int 104729)) (rdw_var 1))))) (Rd.w (rd_int 17)))) (Rd.w (rd_int 69621)))) (Rd.w (rd_int 2147483647))) (rdg_name 2))
      (rds_ret (rd_op (Rd.w (rd_op (Rd.w (rd_op (Rd.w (rd_op (rdw_var 2) (rdw_var 2))) (Rd.w (rd_op (Rd.w (rd_int 3)) (rdw_var 2))))) (rdw_var 1))) (Rd.w (rd_int 2147483629)))))⟩
theorem fk__law_drawn {f : Addr} {fd : FuncData} (F : Fun K "_law_drawn" "_law_drawn" s__law_drawn f fd) (T : Bt K cl mg)  : FnOk P w K mg base CX0 1 f fd ["_law_number", "_law_k"] (spF K cl 2 Dg.L_drawn) := by
  have h := fn_ok (P := P) (w := w) (mg := mg) (base := base) (cl := cl) (k := 0) (n := 2) (b := Dg.b_L_drawn) F sc__law_drawn rfl (fun cdv A outer s H E hr => rd__law_drawn T  hr)
  exact h
theorem ok__law_drawn (D : Df K mg "_law_drawn" s__law_drawn) (T : Bt K cl mg)  : Cal P w K mg base cl CX0 "_law_drawn" 1 2 Dg.L_drawn := by
  obtain ⟨f, fd, F, gl⟩ := D
  exact ⟨f, fd, _, fk__law_drawn F T , gl, F.kp, F.binds (ps := ["_law_number", "_law_k"]) fun _ _ _ _ _ _ us hl => match us, hl with | [_, _], _ => rfl⟩
theorem rd__law_yard (T : Bt K cl mg) (c__law_drawn : Cal P w K mg base cl CX0 "_law_drawn" 1 2 Dg.L_drawn) {f : Addr} {cdv : Value} {A : Around} {outer : List Env} {s : Shared} {H : Hp} {E : XK} (hr : Room 1 (A.deeper (envOfC "_law_yard" (defScope s__law_yard) s.heap.objs.size f cdv))) :
    ∃ t, PSs (cxOf CX0 P w K mg base N__law_yard "_law_yard" (defScope s__law_yard) f cdv A outer s H E).nox (defBody s__law_yard) t ∧ RdS K cl E0 t Dg.b_L_yard := by
  obtain ⟨f__law_drawn, d__law_drawn, p__law_drawn, c__law_drawn_⟩ := c__law_drawn
  have c__law_drawn := c__law_drawn_
  have sc := sc__law_yard
  exact ⟨_, (pss_cons (ps_set (i := 3) sc.nd rfl (.inl rfl) (pe_op op_addX pe_int (pe_op op_modX (pv 0) (pv 1))))
      (pss_cons (ps_set (i := 4) sc.nd rfl (.inl rfl) pe_dnewT)
      (pss_cons (ps_for PassesOwn.never rfl (pi_range2 (by rfl) T.range (pa_cons pe_int (pa_cons (pe_op op_addX (pv 3) pe_int) pa_nil))) (pg_name (i := 5) sc.nd rfl (by first | exact Or.inl rfl | exact Or.inr rfl)) (pss_one (ps_dput (hu_of hr) (pv 4) (pe_tup (pa_cons (pe_op op_modX (pe_call c__law_drawn.ok (hr.mono (by decide)) rfl c__law_drawn.gl c__law_drawn.kp c__law_drawn.bi .nil pass0 (pa_cons (pv 0) (pa_cons (pv 5) pa_nil))) (pv 5)) (pa_cons (pv 5) pa_nil))) (pe_op op_addX pe_int (pe_op op_modX (pe_call c__law_drawn.ok (hr.mono (by decide)) rfl c__law_drawn.gl c__law_drawn.kp c__law_drawn.bi .nil pass0 (pa_cons (pv 0) (pa_cons (pe_op op_addX pe_int (pv 5)) pa_nil))) (pv 2))) rfl)))
      (pss_cons (ps_for PassesOwn.never rfl (pi_range1 (by rfl) T.range (pa_cons (pe_op op_modX (pe_op op_fdivX (pv 0) pe_int) pe_int) pa_nil)) (pg_name (i := 6) sc.nd rfl (by first | exact Or.inl rfl | exact Or.inr rfl)) (pss_cons (ps_set (i := 7) sc.nd rfl (.inl rfl) (pe_op op_modX (pe_call c__law_drawn.ok (hr.mono (by decide)) rfl c__law_drawn.gl c__law_drawn.kp c__law_drawn.bi .nil pass0 (pa_cons (pv 0) (pa_cons (pe_op op_addX pe_int (pv 6)) pa_nil))) (pe_op op_addX (pv 3) pe_int)))
      (pss_cons (ps_set (i := 8) sc.nd rfl (.inl rfl) (pe_op op_modX (pe_call c__law_drawn.ok (hr.mono (by decide)) rfl c__law_drawn.gl c__law_drawn.kp c__law_drawn.bi .nil pass0 (pa_cons (pv 0) (pa_cons (pe_op op_addX pe_int (pv 6)) pa_nil))) (pe_op op_addX (pv 3) pe_int)))
      (pss_one (ps_if (pt_cmpR (op_ltX hr.units) (pv 7) (pv 8) (nomark _)) (pss_one (ps_dput (hu_of hr) (pv 4) (pe_tup (pa_cons (pv 7) (pa_cons (pv 8) pa_nil))) (pe_op op_addX pe_int (pe_op op_modX (pe_call c__law_drawn.ok (hr.mono (by decide)) rfl c__law_drawn.gl c__law_drawn.kp c__law_drawn.bi .nil pass0 (pa_cons (pv 0) (pa_cons (pe_op op_addX pe_int (pv 6)) pa_nil))) (pv 2))) rfl)) pss_nil)))))
      (pss_cons (ps_set (i := 9) sc.nd rfl (.inl rfl) (pe_lst (pa_cons pe_int pa_nil)))
      (pss_cons (ps_for PassesOwn.never rfl (pi_range2 (by rfl) T.range (pa_cons pe_int (pa_cons (pe_op op_addX (pv 3) pe_int) pa_nil))) (pg_name (i := 5) sc.nd rfl (by first | exact Or.inl rfl | exact Or.inr rfl)) (pss_cons (ps_set (i := 10) sc.nd rfl (.inl rfl) (pe_op op_addX pe_int (pe_op op_modX (pe_call c__law_drawn.ok (hr.mono (by decide)) rfl c__law_drawn.gl c__law_drawn.kp c__law_drawn.bi .nil pass0 (pa_cons (pv 0) (pa_cons (pe_op op_addX pe_int (pv 5)) pa_nil))) (pv 5))))
      (pss_one (ps_set (i := 9) sc.nd rfl (.inl rfl) (pe_op op_addX (pe_op op_addX (pe_slice sl_X (pv 9) po_none (po_some (pv 10))) (pe_lst (pa_cons (pv 5) pa_nil))) (pe_slice sl_X (pv 9) (po_some (pv 10)) po_none))))))
      (pss_cons (ps_set (i := 11) sc.nd rfl (.inl rfl) (pe_lst pa_nil))
      (pss_cons (ps_lock (ps_for PassesOwn.never rfl (pi_keys (pv 4)) (pg_tup (n := 2) rfl (pgs_cons (pg_name (i := 7) sc.nd rfl (by first | exact Or.inl rfl | exact Or.inr rfl)) (pgs_cons (pg_name (i := 8) sc.nd rfl (by first | exact Or.inl rfl | exact Or.inr rfl)) pgs_nil))) (pss_cons (ps_set (i := 12) sc.nd rfl (.inl rfl) (pe_ix ix_X (pv 9) (pv 7) (fun _ _ => rfl)))
      (pss_cons (ps_set (i := 13) sc.nd rfl (.inl rfl) (pe_ix ix_X (pv 9) (pv 8) (fun _ _ => rfl)))
      (pss_one (ps_expr (pe_bm PySem.F.plainAttrs_list PySem.F.slot_list_append PySem.F.type_list_append mt_append (pv 11) (pa_cons (pe_tup (pa_cons (pe_callB (cr_min2X rfl) (by rfl) T.min (by decide +kernel) (pa_cons (pv 12) (pa_cons (pv 13) pa_nil))) (pa_cons (pe_callB (cr_max2X rfl) (by rfl) T.max (by decide +kernel) (pa_cons (pv 12) (pa_cons (pv 13) pa_nil))) (pa_cons (pe_dget (hu_of hr) (pv 4) (pe_tup (pa_cons (pv 7) (pa_cons (pv 8) pa_nil))) (fun _ _ => rfl)) pa_nil)))) pa_nil))))))))
      (pss_one (ps_ret (pe_tup (pa_cons (pv 3) (pa_cons (pe_callTy cr_tupX (by rfl) T.tuple (by decide +kernel) (pa_cons (pe_callB (cr_sortX hr.units) (by rfl) T.sorted (by decide +kernel) (pa_cons (pv 11) pa_nil)) pa_nil)) pa_nil))))))))))))),
      (rds_seq (rds_asg (rd_op (Rd.w (rd_int 1)) (Rd.w (rd_op (rdw_var 0) (rdw_var 1)))) (rdg_name 3))
      (rds_seq (rds_dictNew 4)
      (rds_seq (rds_for (rdi_rng2 (Rd.w (rd_int 1)) (Rd.w (rd_op (rdw_var 3) (Rd.w (rd_int 1))))) (rdg_name 5) (rds_dictSet 4 (Rd.w (rd_op (Rd.w (rd_call0 (rda_cons (rd_var 0) (rda_cons (rd_var 5) rda_nil)) (AL.cons (AL.cons AL.nil)).len)) (rdw_var 5))) (rdw_var 5) (rd_op (Rd.w (rd_int 1)) (Rd.w (rd_op (Rd.w (rd_call0 (rda_cons (rd_var 0) (rda_cons (rd_op (Rd.w (rd_int 10)) (rdw_var 5)) rda_nil)) (AL.cons (AL.cons AL.nil)).len)) (rdw_var 2))))))
      (rds_seq (rds_for (rdi_rng1 (Rd.w (rd_op (Rd.w (rd_op (rdw_var 0) (Rd.w (rd_int 7)))) (Rd.w (rd_int 4))))) (rdg_name 6) (rds_seq (rds_asg (rd_op (Rd.w (rd_call0 (rda_cons (rd_var 0) (rda_cons (rd_op (Rd.w (rd_int 20)) (rdw_var 6)) rda_nil)) (AL.cons (AL.cons AL.nil)).len)) (Rd.w (rd_op (rdw_var 3) (Rd.w (rd_int 1))))) (rdg_name 7))
      (rds_seq (rds_asg (rd_op (Rd.w (rd_call0 (rda_cons (rd_var 0) (rda_cons (rd_op (Rd.w (rd_int 30)) (rdw_var 6)) rda_nil)) (AL.cons (AL.cons AL.nil)).len)) (Rd.w (rd_op (rdw_var 3) (Rd.w (rd_int 1))))) (rdg_name 8))
      (rds_if (rdt_test (Rd.w (rd_op (rdw_var 7) (rdw_var 8)))) (rds_dictSet 4 (rdw_var 7) (rdw_var 8) (rd_op (Rd.w (rd_int 1)) (Rd.w (rd_op (Rd.w (rd_call0 (rda_cons (rd_var 0) (rda_cons (rd_op (Rd.w (rd_int 40)) (rdw_var 6)) rda_nil)) (AL.cons (AL.cons AL.nil)).len)) (rdw_var 2))))) rds_next))))
      (rds_seq (rds_asg (RdN.d (rdn_lst (rda_cons (rd_int 0) rda_nil))) (rdg_name 9))
      (rds_seq (rds_for (rdi_rng2 (Rd.w (rd_int 1)) (Rd.w (rd_op (rdw_var 3) (Rd.w (rd_int 1))))) (rdg_name 5) (rds_seq (rds_asg (rd_op (Rd.w (rd_int 1)) (Rd.w (rd_op (Rd.w (rd_call0 (rda_cons (rd_var 0) (rda_cons (rd_op (Rd.w (rd_int 60)) (rdw_var 5)) rda_nil)) (AL.cons (AL.cons AL.nil)).len)) (rdw_var 5)))) (rdg_name 10))
      (rds_asg (rd_op (Rd.w (rd_op (Rd.w (rd_cut (rdw_var 9) rdo_no (rdo_int (rdw_var 10)))) (Rd.w (RdN.d (rdn_lst (rda_cons (rd_var 5) rda_nil)))))) (Rd.w (rd_cut (rdw_var 9) (rdo_int (rdw_var 10)) rdo_no))) (rdg_name 9))))
      (rds_seq (rds_own 11 (rdn_lst rda_nil))
      (rds_seq (rds_forKeys 4 (rdg_tup (rdgs_cons 7 (rdgs_cons 8 rdgs_nil))) (rds_seq (rds_asg (rd_op (rdw_var 9) (rdw_var 7)) (rdg_name 12))
      (rds_seq (rds_asg (rd_op (rdw_var 9) (rdw_var 8)) (rdg_name 13))
      (rds_app 11 (rd_tup (rda_cons (rd_b2 (rdw_var 12) (rdw_var 13)) (rda_cons (rd_b2 (rdw_var 12) (rdw_var 13)) (rda_cons (rd_dictGet 4 (rdw_var 7) (rdw_var 8)) rda_nil))))))))
      (rds_ret (rd_tup (rda_cons (rd_var 3) (rda_cons (rd_b1 (Rd.w (RdN.d (rdn_b1 sortD_list (rdw_var 11))))) rda_nil))))))))))))⟩
theorem fk__law_yard {f : Addr} {fd : FuncData} (F : Fun K "_law_yard" "_law_yard" s__law_yard f fd) (T : Bt K cl mg) (c__law_drawn : Cal P w K mg base cl CX0 "_law_drawn" 1 2 Dg.L_drawn) : FnOk P w K mg base CX0 2 f fd ["_law_number", "_law_most", "_law_wide"] (spF K cl 3 Dg.L_yard) := by
  have h := fn_ok (P := P) (w := w) (mg := mg) (base := base) (cl := cl) (k := 1) (n := 3) (b := Dg.b_L_yard) F sc__law_yard rfl (fun cdv A outer s H E hr => rd__law_yard T c__law_drawn hr)
  exact h
theorem ok__law_yard (D : Df K mg "_law_yard" s__law_yard) (T : Bt K cl mg) (c__law_drawn : Cal P w K mg base cl CX0 "_law_drawn" 1 2 Dg.L_drawn) : Cal P w K mg base cl CX0 "_law_yard" 2 3 Dg.L_yard := by
  obtain ⟨f, fd, F, gl⟩ := D
  exact ⟨f, fd, _, fk__law_yard F T c__law_drawn, gl, F.kp, F.binds (ps := ["_law_number", "_law_most", "_law_wide"]) fun _ _ _ _ _ _ us hl => match us, hl with | [_, _, _], _ => rfl⟩
theorem rd__law_between (T : Bt K cl mg)  {f : Addr} {cdv : Value} {A : Around} {outer : List Env} {s : Shared} {H : Hp} {E : XK} (hr : Room 0 (A.deeper (envOfC "_law_between" (defScope s__law_between) s.heap.objs.size f cdv))) :
    ∃ t, PSs (cxOf CX0 P w K mg base N__law_between "_law_between" (defScope s__law_between) f cdv A outer s H E).nox (defBody s__law_between) t ∧ RdS K cl E0 t Dg.b_L_between := by
  have sc := sc__law_between
  exact ⟨_, (pss_one (ps_ret (pe_callB (cr_sumX rfl) (by rfl) T.sum (by decide +kernel) (pa_cons (pe_lc (own := [("_law_low", 3), ("_law_high", 4), ("_law_many", 5)]) rfl sc.nd (pi_seq (pe_ix ix_X (pv 0) pe_int (fun _ _ => rfl))) (blkOk_by (N := N__law_between) (sc := defScope s__law_between) (by decide +kernel)) (fun _ _ _ _ _ => (pg_tup (n := 3) rfl (pgs_cons (pg_name (i := 3) sc.nd rfl (by first | exact Or.inl rfl | exact Or.inr rfl)) (pgs_cons (pg_name (i := 4) sc.nd rfl (by first | exact Or.inl rfl | exact Or.inr rfl)) (pgs_cons (pg_name (i := 5) sc.nd rfl (by first | exact Or.inl rfl | exact Or.inr rfl)) pgs_nil))))) (fun _ _ _ _ _ => (pts_one (PW.pt (pw_and (pt_cmpR (op_neX hr.units) (pv 3) (pv 4) (nomark _)) (pw_and1 (pt_cmpR (op_inX hr.units) (pe_tup (pa_cons (pv 3) (pa_cons (pv 4) pa_nil))) (pe_tup (pa_cons (pe_tup (pa_cons (pv 1) (pa_cons (pv 2) pa_nil))) (pa_cons (pe_tup (pa_cons (pv 2) (pa_cons (pv 1) pa_nil))) pa_nil))) (by rfl))))))) (fun _ _ _ _ _ => (pv 5))) pa_nil)))),
      (rds_ret (rd_b1 (Rd.w (RdN.d (rdn_comp (E2 := E0) (rdi_seq (rd_op (rdw_var 0) (Rd.w (rd_int 1)))) (rdg_tup (rdgs_cons 3 (rdgs_cons 4 (rdgs_cons 5 rdgs_nil)))) (by decide) (rdt_and (rdt_test (Rd.w (rd_op (rdw_var 3) (rdw_var 4)))) (rdt_test (Rd.w (rd_op (Rd.w (rd_tup (rda_cons (rd_var 3) (rda_cons (rd_var 4) rda_nil)))) (Rd.w (rd_tup (rda_cons (rd_tup (rda_cons (rd_var 1) (rda_cons (rd_var 2) rda_nil))) (rda_cons (rd_tup (rda_cons (rd_var 2) (rda_cons (rd_var 1) rda_nil))) rda_nil)))))))) (rd_var 5))))))⟩
theorem fk__law_between {f : Addr} {fd : FuncData} (F : Fun K "_law_between" "_law_between" s__law_between f fd) (T : Bt K cl mg)  : FnOk P w K mg base CX0 1 f fd ["_law_yard_here", "_law_one", "_law_other"] (spF K cl 3 Dg.L_between) := by
  have h := fn_ok (P := P) (w := w) (mg := mg) (base := base) (cl := cl) (k := 0) (n := 3) (b := Dg.b_L_between) F sc__law_between rfl (fun cdv A outer s H E hr => rd__law_between T  hr)
  exact h
theorem ok__law_between (D : Df K mg "_law_between" s__law_between) (T : Bt K cl mg)  : Cal P w K mg base cl CX0 "_law_between" 1 3 Dg.L_between := by
  obtain ⟨f, fd, F, gl⟩ := D
  exact ⟨f, fd, _, fk__law_between F T , gl, F.kp, F.binds (ps := ["_law_yard_here", "_law_one", "_law_other"]) fun _ _ _ _ _ _ us hl => match us, hl with | [_, _, _], _ => rfl⟩
theorem rd__law_sizes (T : Bt K cl mg) (c__law_between : Cal P w K mg base cl CX0 "_law_between" 1 3 Dg.L_between) {f : Addr} {cdv : Value} {A : Around} {outer : List Env} {s : Shared} {H : Hp} {E : XK} (hr : Room 1 (A.deeper (envOfC "_law_sizes" (defScope s__law_sizes) s.heap.objs.size f cdv))) :
    ∃ t, PSs (cxOf CX0 P w K mg base N__law_sizes "_law_sizes" (defScope s__law_sizes) f cdv A outer s H E).nox (defBody s__law_sizes) t ∧ RdS K cl E0 t Dg.b_L_sizes := by
  obtain ⟨f__law_between, d__law_between, p__law_between, c__law_between_⟩ := c__law_between
  have c__law_between := c__law_between_
  have sc := sc__law_sizes
  exact ⟨_, (pss_cons (ps_set (i := 1) sc.nd rfl (.inl rfl) (pe_lst pa_nil))
      (pss_cons (ps_for PassesOwn.never rfl (pi_range2 (by rfl) T.range (pa_cons pe_int (pa_cons (pe_op op_addX (pe_ix ix_X (pv 0) pe_int (fun _ _ => rfl)) pe_int) pa_nil))) (pg_name (i := 2) sc.nd rfl (by first | exact Or.inl rfl | exact Or.inr rfl)) (pss_one (ps_expr (pe_bm PySem.F.plainAttrs_list PySem.F.slot_list_append PySem.F.type_list_append mt_append (pv 1) (pa_cons (pe_callB (cr_sumX rfl) (by rfl) T.sum (by decide +kernel) (pa_cons (pe_lc (own := [("_law_other", 3)]) rfl sc.nd (pi_range1 (by rfl) T.range (pa_cons (pe_op op_addX (pe_ix ix_X (pv 0) pe_int (fun _ _ => rfl)) pe_int) pa_nil)) (blkOk_by (N := N__law_sizes) (sc := defScope s__law_sizes) (by decide +kernel)) (fun _ _ _ _ _ => (pg_name (i := 3) sc.nd rfl (by first | exact Or.inl rfl | exact Or.inr rfl))) (fun _ _ _ _ _ => pts_nil) (fun _ _ _ _ _ => (pe_call c__law_between.ok (hr.mono (by decide)) rfl c__law_between.gl c__law_between.kp c__law_between.bi .nil pass0 (pa_cons (pv 0) (pa_cons (pv 2) (pa_cons (pv 3) pa_nil)))))) pa_nil)) pa_nil)))))
      (pss_one (ps_ret (pv 1))))),
      (rds_seq (rds_own 1 (rdn_lst rda_nil))
      (rds_seq (rds_for (rdi_rng2 (Rd.w (rd_int 1)) (Rd.w (rd_op (Rd.w (rd_op (rdw_var 0) (Rd.w (rd_int 0)))) (Rd.w (rd_int 1))))) (rdg_name 2) (rds_app 1 (rd_b1 (Rd.w (RdN.d (rdn_comp (E2 := E0) (rdi_rng1 (Rd.w (rd_op (Rd.w (rd_op (rdw_var 0) (Rd.w (rd_int 0)))) (Rd.w (rd_int 1))))) (rdg_name 3) (by decide) rdt_yes (rd_call0 (rda_cons (rd_var 0) (rda_cons (rd_var 2) (rda_cons (rd_var 3) rda_nil))) (AL.cons (AL.cons (AL.cons AL.nil))).len)))))))
      (rds_retO 1)))⟩
theorem fk__law_sizes {f : Addr} {fd : FuncData} (F : Fun K "_law_sizes" "_law_sizes" s__law_sizes f fd) (T : Bt K cl mg) (c__law_between : Cal P w K mg base cl CX0 "_law_between" 1 3 Dg.L_between) : FnOk P w K mg base CX0 2 f fd ["_law_yard_here"] (spF K cl 1 Dg.L_sizes) := by
  have h := fn_ok (P := P) (w := w) (mg := mg) (base := base) (cl := cl) (k := 1) (n := 1) (b := Dg.b_L_sizes) F sc__law_sizes rfl (fun cdv A outer s H E hr => rd__law_sizes T c__law_between hr)
  exact h
theorem ok__law_sizes (D : Df K mg "_law_sizes" s__law_sizes) (T : Bt K cl mg) (c__law_between : Cal P w K mg base cl CX0 "_law_between" 1 3 Dg.L_between) : Cal P w K mg base cl CX0 "_law_sizes" 2 1 Dg.L_sizes := by
  obtain ⟨f, fd, F, gl⟩ := D
  exact ⟨f, fd, _, fk__law_sizes F T c__law_between, gl, F.kp, F.binds (ps := ["_law_yard_here"]) fun _ _ _ _ _ _ us hl => match us, hl with | [_], _ => rfl⟩
theorem rd_sizes (T : Bt K cl mg)  {f : Addr} {cdv : Value} {A : Around} {outer : List Env} {s : Shared} {H : Hp} {E : XK} (hr : Room 0 (A.deeper (envOfC "sizes" (defScope s_sizes) s.heap.objs.size f cdv))) :
    ∃ t, PSs (cxOf CX0 P w K mg base N_sizes "sizes" (defScope s_sizes) f cdv A outer s H E).nox (defBody s_sizes) t ∧ RdS K cl E0 t Dg.b_P_sizes := by
  have sc := sc_sizes
  exact ⟨_, (pss_cons (ps_set (i := 1) sc.nd rfl (.inl rfl) (pe_lst pa_nil))
      (pss_cons (ps_for PassesOwn.never rfl (pi_range2 (by rfl) T.range (pa_cons pe_int (pa_cons (pe_op op_addX (pe_ix ix_X (pv 0) pe_int (fun _ _ => rfl)) pe_int) pa_nil))) (pg_name (i := 2) sc.nd rfl (by first | exact Or.inl rfl | exact Or.inr rfl)) (pss_one (ps_expr (pe_bm PySem.F.plainAttrs_list PySem.F.slot_list_append PySem.F.type_list_append mt_append (pv 1) (pa_cons (pe_callB (cr_sumX rfl) (by rfl) T.sum (by decide +kernel) (pa_cons (pe_lc (own := [("low", 3), ("high", 4), ("many", 5)]) rfl sc.nd (pi_seq (pe_ix ix_X (pv 0) pe_int (fun _ _ => rfl))) (blkOk_by (N := N_sizes) (sc := defScope s_sizes) (by decide +kernel)) (fun _ _ _ _ _ => (pg_tup (n := 3) rfl (pgs_cons (pg_name (i := 3) sc.nd rfl (by first | exact Or.inl rfl | exact Or.inr rfl)) (pgs_cons (pg_name (i := 4) sc.nd rfl (by first | exact Or.inl rfl | exact Or.inr rfl)) (pgs_cons (pg_name (i := 5) sc.nd rfl (by first | exact Or.inl rfl | exact Or.inr rfl)) pgs_nil))))) (fun _ _ _ _ _ => (pts_one (pt_cmpR (op_inX hr.units) (pv 2) (pe_tup (pa_cons (pv 3) (pa_cons (pv 4) pa_nil))) (by rfl)))) (fun _ _ _ _ _ => (pv 5))) pa_nil)) pa_nil)))))
      (pss_one (ps_ret (pe_callTy cr_tupX (by rfl) T.tuple (by decide +kernel) (pa_cons (pv 1) pa_nil)))))),
      (rds_seq (rds_own 1 (rdn_lst rda_nil))
      (rds_seq (rds_for (rdi_rng2 (Rd.w (rd_int 1)) (Rd.w (rd_op (Rd.w (rd_op (rdw_var 0) (Rd.w (rd_int 0)))) (Rd.w (rd_int 1))))) (rdg_name 2) (rds_app 1 (rd_b1 (Rd.w (RdN.d (rdn_comp (E2 := E0) (rdi_seq (rd_op (rdw_var 0) (Rd.w (rd_int 1)))) (rdg_tup (rdgs_cons 3 (rdgs_cons 4 (rdgs_cons 5 rdgs_nil)))) (by decide) (rdt_test (Rd.w (rd_op (rdw_var 2) (Rd.w (rd_tup (rda_cons (rd_var 3) (rda_cons (rd_var 4) rda_nil))))))) (rd_var 5)))))))
      (rds_ret (rd_b1 (rdw_var 1)))))⟩
theorem fk_sizes {f : Addr} {fd : FuncData} (F : Fun K "sizes" "sizes" s_sizes f fd) (T : Bt K cl mg)  : FnOk P w K mg base CX0 1 f fd ["yard"] (spF K cl 1 Dg.P_sizes) := by
  have h := fn_ok (P := P) (w := w) (mg := mg) (base := base) (cl := cl) (k := 0) (n := 1) (b := Dg.b_P_sizes) F sc_sizes rfl (fun cdv A outer s H E hr => rd_sizes T  hr)
  exact h
theorem ok_sizes (D : Df K mg "sizes" s_sizes) (T : Bt K cl mg)  : Cal P w K mg base cl CX0 "sizes" 1 1 Dg.P_sizes := by
  obtain ⟨f, fd, F, gl⟩ := D
  exact ⟨f, fd, _, fk_sizes F T , gl, F.kp, F.binds (ps := ["yard"]) fun _ _ _ _ _ _ us hl => match us, hl with | [_], _ => rfl⟩
theorem rd_rests (T : Bt K cl mg) (c_sizes : Cal P w K mg base cl CX0 "sizes" 1 1 Dg.P_sizes) {f : Addr} {cdv : Value} {A : Around} {outer : List Env} {s : Shared} {H : Hp} {E : XK} (hr : Room 1 (A.deeper (envOfC "rests" (defScope s_rests) s.heap.objs.size f cdv))) :
    ∃ t, PSs (cxOf CX0 P w K mg base N_rests "rests" (defScope s_rests) f cdv A outer s H E).nox (defBody s_rests) t ∧ RdS K cl E0 t Dg.b_P_rests := by
  obtain ⟨f_sizes, d_sizes, p_sizes, c_sizes_⟩ := c_sizes
  have c_sizes := c_sizes_
  have sc := sc_rests
  exact ⟨_, (pss_one (ps_ret (pe_callB (cr_allX rfl) (by rfl) T.all (by decide +kernel) (pa_cons (pe_lc (own := [("part", 2), ("size", 3)]) rfl sc.nd (RZ.pi_zipA (by rfl) T.zip (pa_cons (pv 1) (pa_cons (pe_call c_sizes.ok (hr.mono (by decide)) rfl c_sizes.gl c_sizes.kp c_sizes.bi .nil pass0 (pa_cons (pv 0) pa_nil)) pa_nil))) (blkOk_by (N := N_rests) (sc := defScope s_rests) (by decide +kernel)) (fun _ _ _ _ _ => (pg_tup (n := 2) rfl (pgs_cons (pg_name (i := 2) sc.nd rfl (by first | exact Or.inl rfl | exact Or.inr rfl)) (pgs_cons (pg_name (i := 3) sc.nd rfl (by first | exact Or.inl rfl | exact Or.inr rfl)) pgs_nil)))) (fun _ _ _ _ _ => pts_nil) (fun _ _ _ _ _ => (pe_cmpR (op_ltX hr.units) (pv 2) (pv 3) (nomark _)))) pa_nil)))),
      (rds_ret (rd_b1 (Rd.w (RdN.d (rdn_comp (E2 := E0) (rdi_zip (rd_var 1) (rd_call0 (rda_cons (rd_var 0) rda_nil) (AL.cons AL.nil).len)) (rdg_tup (rdgs_cons 2 (rdgs_cons 3 rdgs_nil))) (by decide) rdt_yes (rd_op (rdw_var 2) (rdw_var 3)))))))⟩
theorem fk_rests {f : Addr} {fd : FuncData} (F : Fun K "rests" "rests" s_rests f fd) (T : Bt K cl mg) (c_sizes : Cal P w K mg base cl CX0 "sizes" 1 1 Dg.P_sizes) : FnOk P w K mg base CX0 2 f fd ["yard", "grains"] (spF K cl 2 Dg.P_rests) := by
  have h := fn_ok (P := P) (w := w) (mg := mg) (base := base) (cl := cl) (k := 1) (n := 2) (b := Dg.b_P_rests) F sc_rests rfl (fun cdv A outer s H E hr => rd_rests T c_sizes hr)
  exact h
theorem ok_rests (D : Df K mg "rests" s_rests) (T : Bt K cl mg) (c_sizes : Cal P w K mg base cl CX0 "sizes" 1 1 Dg.P_sizes) : Cal P w K mg base cl CX0 "rests" 2 2 Dg.P_rests := by
  obtain ⟨f, fd, F, gl⟩ := D
  exact ⟨f, fd, _, fk_rests F T c_sizes, gl, F.kp, F.binds (ps := ["yard", "grains"]) fun _ _ _ _ _ _ us hl => match us, hl with | [_, _], _ => rfl⟩
theorem rd_between (T : Bt K cl mg)  {f : Addr} {cdv : Value} {A : Around} {outer : List Env} {s : Shared} {H : Hp} {E : XK} (hr : Room 0 (A.deeper (envOfC "between" (defScope s_between) s.heap.objs.size f cdv))) :
    ∃ t, PSs (cxOf CX0 P w K mg base N_between "between" (defScope s_between) f cdv A outer s H E).nox (defBody s_between) t ∧ RdS K cl E0 t Dg.b_P_between := by
  have sc := sc_between
  exact ⟨_, (pss_cons (ps_for PassesOwn.never rfl (pi_seq (pe_ix ix_X (pv 0) pe_int (fun _ _ => rfl))) (pg_tup (n := 3) rfl (pgs_cons (pg_name (i := 3) sc.nd rfl (by first | exact Or.inl rfl | exact Or.inr rfl)) (pgs_cons (pg_name (i := 4) sc.nd rfl (by first | exact Or.inl rfl | exact Or.inr rfl)) (pgs_cons (pg_name (i := 5) sc.nd rfl (by first | exact Or.inl rfl | exact Or.inr rfl)) pgs_nil)))) (pss_one (ps_if (pt_cmpR (op_eqX hr.units) (pe_tup (pa_cons (pv 3) (pa_cons (pv 4) pa_nil))) (pe_tup (pa_cons (pe_callB (cr_min2X rfl) (by rfl) T.min (by decide +kernel) (pa_cons (pv 1) (pa_cons (pv 2) pa_nil))) (pa_cons (pe_callB (cr_max2X rfl) (by rfl) T.max (by decide +kernel) (pa_cons (pv 1) (pa_cons (pv 2) pa_nil))) pa_nil))) (nomark _)) (pss_one (ps_ret (pv 5))) pss_nil)))
      (pss_one (ps_ret pe_int))),
      (rds_seq (rds_for (rdi_seq (rd_op (rdw_var 0) (Rd.w (rd_int 1)))) (rdg_tup (rdgs_cons 3 (rdgs_cons 4 (rdgs_cons 5 rdgs_nil)))) (rds_if (rdt_test (Rd.w (rd_op (Rd.w (rd_tup (rda_cons (rd_var 3) (rda_cons (rd_var 4) rda_nil)))) (Rd.w (rd_tup (rda_cons (rd_b2 (rdw_var 1) (rdw_var 2)) (rda_cons (rd_b2 (rdw_var 1) (rdw_var 2)) rda_nil))))))) (rds_ret (rd_var 5)) rds_next))
      (rds_ret (rd_int 0)))⟩
theorem fk_between {f : Addr} {fd : FuncData} (F : Fun K "between" "between" s_between f fd) (T : Bt K cl mg)  : FnOk P w K mg base CX0 1 f fd ["yard", "one", "other"] (spF K cl 3 Dg.P_between) := by
  have h := fn_ok (P := P) (w := w) (mg := mg) (base := base) (cl := cl) (k := 0) (n := 3) (b := Dg.b_P_between) F sc_between rfl (fun cdv A outer s H E hr => rd_between T  hr)
  exact h
theorem ok_between (D : Df K mg "between" s_between) (T : Bt K cl mg)  : Cal P w K mg base cl CX0 "between" 1 3 Dg.P_between := by
  obtain ⟨f, fd, F, gl⟩ := D
  exact ⟨f, fd, _, fk_between F T , gl, F.kp, F.binds (ps := ["yard", "one", "other"]) fun _ _ _ _ _ _ us hl => match us, hl with | [_, _, _], _ => rfl⟩
theorem rd_burn (T : Bt K cl mg) (c_rests : Cal P w K mg base cl CX0 "rests" 2 2 Dg.P_rests) (c_between : Cal P w K mg base cl CX0 "between" 1 3 Dg.P_between) {f : Addr} {cdv : Value} {A : Around} {outer : List Env} {s : Shared} {H : Hp} {E : XK} (hr : Room 2 (A.deeper (envOfC "burn" (defScope s_burn) s.heap.objs.size f cdv))) :
    ∃ t, PSs (cxOf (L2N.CX P w) P w K mg base N_burn "burn" (defScope s_burn) f cdv A outer s H E) (defBody s_burn) t ∧ RdS K cl E t Dg.b_P_burn := by
  obtain ⟨f_rests, d_rests, p_rests, c_rests_⟩ := c_rests
  have c_rests := c_rests_
  obtain ⟨f_between, d_between, p_between, c_between_⟩ := c_between
  have c_between := c_between_
  obtain ⟨C_NoRest, xr_NoRest, hc_NoRest⟩ := T.r_NoRest
  have sc := sc_burn
  exact ⟨_, (pss_cons (ps_if (pt_not (pt_val (pe_call c_rests.ok (hr.mono (by decide)) rfl c_rests.gl c_rests.kp c_rests.bi .nil pass0 (pa_cons (pv 0) (pa_cons (pv 1) pa_nil))))) (pss_one (ps_raiseN rfl (L2N.takes_of rfl rfl rfl rfl) xr_NoRest (by rfl))) pss_nil)
      (PSs.nox (pss_cons (ps_set (i := 2) sc.nd rfl (.inr rfl) (pe_listRg rfl (by rfl) T.list (prg_2 (by rfl) T.range pe_int (pe_op op_addX (pe_ix ix_X (pv 0) pe_int (fun _ _ => rfl)) pe_int))))
      (pss_cons (ps_set (i := 3) sc.nd rfl (.inl rfl) (pe_lst pa_nil))
      (pss_cons (ps_set (i := 4) sc.nd rfl (.inl rfl) pe_bl)
      (pss_cons (ps_while PassesOwn.never (pt_val (pv 4)) (pss_cons (ps_set (i := 5) sc.nd rfl (.inr rfl) (pe_lc (own := [("place", 6)]) rfl sc.nd (pi_seq (pv 2)) (blkOk_by (N := N_burn) (sc := defScope s_burn) (by decide +kernel)) (fun _ _ _ _ _ => (pg_name (i := 6) sc.nd rfl (by first | exact Or.inl rfl | exact Or.inr rfl))) (fun _ _ _ _ _ => (pts_one (pt_cmpR (op_geX hr.units) (pe_ix ix_X (pv 1) (pe_op op_subX (pv 6) pe_int) (fun _ _ => rfl)) (pe_callB (cr_sumX rfl) (by rfl) T.sum (by decide +kernel) (pa_cons (pe_lc (own := [("other", 7)]) rfl sc.nd (pi_seq (pv 2)) (blkOk_by (by kernel_rfl)) (fun _ _ _ _ _ => (pg_name (i := 7) sc.nd rfl (by first | exact Or.inl rfl | exact Or.inr rfl))) (fun _ _ _ _ _ => pts_nil) (fun _ _ _ _ _ => (pe_call c_between.ok (hr.mono (by decide)) rfl c_between.gl c_between.kp c_between.bi .nil pass0 (pa_cons (pv 0) (pa_cons (pv 6) (pa_cons (pv 7) pa_nil)))))) pa_nil)) (nomark _)))) (fun _ _ _ _ _ => (pv 6))))
      (pss_cons (ps_set (i := 2) sc.nd rfl (.inr rfl) (pe_lc (own := [("place", 6)]) rfl sc.nd (pi_seq (pv 2)) (blkOk_by (N := N_burn) (sc := defScope s_burn) (by decide +kernel)) (fun _ _ _ _ _ => (pg_name (i := 6) sc.nd rfl (by first | exact Or.inl rfl | exact Or.inr rfl))) (fun _ _ _ _ _ => (pts_one (pt_cmpR (op_notInX hr.units) (pv 6) (pv 5) (by rfl)))) (fun _ _ _ _ _ => (pv 6))))
      (pss_cons (ps_set (i := 4) sc.nd rfl (.inl rfl) (pe_cmpR (op_gtX hr.units) (pe_callB cr_lenX (by rfl) T.len (by decide +kernel) (pa_cons (pv 5) pa_nil)) pe_int (nomark _)))
      (pss_one (ps_if (pt_val (pv 4)) (pss_one (ps_expr (pe_bm PySem.F.plainAttrs_list PySem.F.slot_list_append PySem.F.type_list_append mt_append (pv 3) (pa_cons (pe_callTy cr_tupX (by rfl) T.tuple (by decide +kernel) (pa_cons (pv 5) pa_nil)) pa_nil)))) pss_nil))))))
      (pss_one (ps_ret (pe_callTy cr_tupX (by rfl) T.tuple (by decide +kernel) (pa_cons (pv 3) pa_nil)))))))))),
      (rds_seq (rds_if (rdt_not (rdt_val (Rd.w (rd_call0 (rda_cons (rd_var 0) (rda_cons (rd_var 1) rda_nil)) (AL.cons (AL.cons AL.nil)).len)))) (rds_raise hc_NoRest) rds_next)
      (rds_seq (rds_asg (RdN.d (rdn_lrange (Rd.w (rd_int 1)) (Rd.w (rd_op (Rd.w (rd_op (rdw_var 0) (Rd.w (rd_int 0)))) (Rd.w (rd_int 1)))))) (rdg_name 2))
      (rds_seq (rds_own 3 (rdn_lst rda_nil))
      (rds_seq (rds_asg (rd_bl true) (rdg_name 4))
      (rds_seq (rds_while (rdt_val (rdw_var 4)) (rds_seq (rds_asg (RdN.d (rdn_comp (E2 := E0) (rdi_seq (rd_var 2)) (rdg_name 6) (by decide) (rdt_test (Rd.w (rd_op (Rd.w (rd_op (rdw_var 1) (Rd.w (rd_op (rdw_var 6) (Rd.w (rd_int 1)))))) (Rd.w (rd_b1 (Rd.w (RdN.d (rdn_comp (E2 := E0) (rdi_seq (rd_var 2)) (rdg_name 7) (by decide) rdt_yes (rd_call0 (rda_cons (rd_var 0) (rda_cons (rd_var 6) (rda_cons (rd_var 7) rda_nil))) (AL.cons (AL.cons (AL.cons AL.nil))).len))))))))) (rd_var 6))) (rdg_name 5))
      (rds_seq (rds_asg (RdN.d (rdn_comp (E2 := E0) (rdi_seq (rd_var 2)) (rdg_name 6) (by decide) (rdt_test (Rd.w (rd_op (rdw_var 6) (rdw_var 5)))) (rd_var 6))) (rdg_name 2))
      (rds_seq (rds_asg (rd_op (Rd.w (rd_b1 (rdw_var 5))) (Rd.w (rd_int 0))) (rdg_name 4))
      (rds_if (rdt_val (rdw_var 4)) (rds_app 3 (rd_b1 (rdw_var 5))) rds_next)))))
      (rds_ret (rd_b1 (rdw_var 3))))))))⟩
theorem fk_burn {f : Addr} {fd : FuncData} (F : Fun K "burn" "burn" s_burn f fd) (T : Bt K cl mg) (c_rests : Cal P w K mg base cl CX0 "rests" 2 2 Dg.P_rests) (c_between : Cal P w K mg base cl CX0 "between" 1 3 Dg.P_between) : FnOk P w K mg base (L2N.CX P w) 3 f fd ["yard", "grains"] (spF K cl 2 Dg.P_burn) := by
  have h := fn_okN (P := P) (w := w) (mg := mg) (base := base) (cl := cl) (k := 2) (n := 2) (b := Dg.b_P_burn) F sc_burn rfl (fun cdv A outer s H E hr => rd_burn T c_rests c_between hr)
  exact h
theorem ok_burn (D : Df K mg "burn" s_burn) (T : Bt K cl mg) (c_rests : Cal P w K mg base cl CX0 "rests" 2 2 Dg.P_rests) (c_between : Cal P w K mg base cl CX0 "between" 1 3 Dg.P_between) : Cal P w K mg base cl (L2N.CX P w) "burn" 3 2 Dg.P_burn := by
  obtain ⟨f, fd, F, gl⟩ := D
  exact ⟨f, fd, _, fk_burn F T c_rests c_between, gl, F.kp, F.binds (ps := ["yard", "grains"]) fun _ _ _ _ _ _ us hl => match us, hl with | [_, _], _ => rfl⟩
theorem rd_is_lasting (T : Bt K cl mg) (c_burn : Cal P w K mg base cl (L2N.CX P w) "burn" 3 2 Dg.P_burn) {f : Addr} {cdv : Value} {A : Around} {outer : List Env} {s : Shared} {H : Hp} {E : XK} (hr : Room 3 (A.deeper (envOfC "is_lasting" (defScope s_is_lasting) s.heap.objs.size f cdv))) :
    ∃ t, PSs (cxOf (L2N.CX P w) P w K mg base N_is_lasting "is_lasting" (defScope s_is_lasting) f cdv A outer s H E) (defBody s_is_lasting) t ∧ RdS K cl E t Dg.b_P_is_lasting := by
  obtain ⟨f_burn, d_burn, p_burn, c_burn_⟩ := c_burn
  have c_burn := c_burn_
  have sc := sc_is_lasting
  exact ⟨_, (pss_one (ps_ret (pe_cmpR (op_eqX hr.units) (pe_callB (cr_sumX rfl) (by rfl) T.sum (by decide +kernel) (pa_cons (pe_lc (own := [("turn", 2)]) rfl sc.nd (pi_seq (pe_call c_burn.ok (hr.mono (by decide)) rfl c_burn.gl c_burn.kp c_burn.bi .nil (passT (L2N.takes_of rfl rfl rfl rfl)) (pa_cons (pv 0) (pa_cons (pv 1) pa_nil)))) (blkOk_by (N := N_is_lasting) (sc := defScope s_is_lasting) (by decide +kernel)) (fun _ _ _ _ _ => (pg_name (i := 2) sc.nd rfl (by first | exact Or.inl rfl | exact Or.inr rfl))) (fun _ _ _ _ _ => pts_nil) (fun _ _ _ _ _ => (pe_callB cr_lenX (by rfl) T.len (by decide +kernel) (pa_cons (pv 2) pa_nil)))) pa_nil)) (pe_ix ix_X (pv 0) pe_int (fun _ _ => rfl)) (nomark _)))),
      (rds_ret (rd_op (Rd.w (rd_b1 (Rd.w (RdN.d (rdn_comp (E2 := E0) (rdi_seq (rd_call (rda_cons (rd_var 0) (rda_cons (rd_var 1) rda_nil)) (AL.cons (AL.cons AL.nil)).len)) (rdg_name 2) (by decide) rdt_yes (rd_b1 (rdw_var 2))))))) (Rd.w (rd_op (rdw_var 0) (Rd.w (rd_int 0))))))⟩
theorem fk_is_lasting {f : Addr} {fd : FuncData} (F : Fun K "is_lasting" "is_lasting" s_is_lasting f fd) (T : Bt K cl mg) (c_burn : Cal P w K mg base cl (L2N.CX P w) "burn" 3 2 Dg.P_burn) : FnOk P w K mg base (L2N.CX P w) 4 f fd ["yard", "grains"] (spF K cl 2 Dg.P_is_lasting) := by
  have h := fn_okN (P := P) (w := w) (mg := mg) (base := base) (cl := cl) (k := 3) (n := 2) (b := Dg.b_P_is_lasting) F sc_is_lasting rfl (fun cdv A outer s H E hr => rd_is_lasting T c_burn hr)
  exact h
theorem ok_is_lasting (D : Df K mg "is_lasting" s_is_lasting) (T : Bt K cl mg) (c_burn : Cal P w K mg base cl (L2N.CX P w) "burn" 3 2 Dg.P_burn) : Cal P w K mg base cl (L2N.CX P w) "is_lasting" 4 2 Dg.P_is_lasting := by
  obtain ⟨f, fd, F, gl⟩ := D
  exact ⟨f, fd, _, fk_is_lasting F T c_burn, gl, F.kp, F.binds (ps := ["yard", "grains"]) fun _ _ _ _ _ _ us hl => match us, hl with | [_, _], _ => rfl⟩
theorem rd__law_told (T : Bt K cl mg) (c_burn : Cal P w K mg base cl (L2N.CX P w) "burn" 3 2 Dg.P_burn) (c_is_lasting : Cal P w K mg base cl (L2N.CX P w) "is_lasting" 4 2 Dg.P_is_lasting) {f : Addr} {cdv : Value} {A : Around} {outer : List Env} {s : Shared} {H : Hp} {E : XK} (hr : Room 4 (A.deeper (envOfC "_law_told" (defScope s__law_told) s.heap.objs.size f cdv))) :
    ∃ t, PSs (cxOf CX0 P w K mg base N__law_told "_law_told" (defScope s__law_told) f cdv A outer s H E).nox (defBody s__law_told) t ∧ RdS K cl E0 t Dg.b_L_told := by
  obtain ⟨f_burn, d_burn, p_burn, c_burn_⟩ := c_burn
  have c_burn := c_burn_
  obtain ⟨f_is_lasting, d_is_lasting, p_is_lasting, c_is_lasting_⟩ := c_is_lasting
  have c_is_lasting := c_is_lasting_
  obtain ⟨Ch_NoRest_NoRest, H_NoRest_NoRest, gh_NoRest_NoRest, hh_NoRest_NoRest, eh_NoRest_NoRest⟩ := T.h_NoRest_NoRest
  obtain ⟨C_NoRest, A1_NoRest, A2_NoRest, A3_NoRest, A4_NoRest, S_NoRest, gc_NoRest, hc_NoRest, ex_NoRest, ec_NoRest, xs_NoRest, g1_NoRest, g2_NoRest, g3_NoRest, g4_NoRest, gS_NoRest⟩ := T.s_NoRest
  have eq_NoRest_NoRest : Ch_NoRest_NoRest = C_NoRest := Value.ref.inj (hh_NoRest_NoRest.symm.trans hc_NoRest)
  subst eq_NoRest_NoRest
  have sc := sc__law_told
  exact ⟨_, (pss_one (ps_tryG (E' := E0) (c := "NoRest") (i := 3) (b := _) (v := (.str "none")) rfl rfl sc.nd rfl rfl ⟨by rfl, by decide, Or.inl gh_NoRest_NoRest⟩ hc_NoRest eh_NoRest_NoRest (fun E pn xe hp => ⟨_, (pss_cons (ps_if (pt_cmpR (op_eqX hr.units) (pv 2) pe_int (nomark _)) (pss_one (ps_ret (pe_call c_burn.ok (hr.mono (by decide)) rfl c_burn.gl c_burn.kp c_burn.bi .nil hp (pa_cons (pv 0) (pa_cons (pv 1) pa_nil))))) pss_nil)
      (pss_one (ps_ret (pe_call c_is_lasting.ok (hr.mono (by decide)) rfl c_is_lasting.gl c_is_lasting.kp c_is_lasting.bi .nil hp (pa_cons (pv 0) (pa_cons (pv 1) pa_nil)))))), (rds_seq (rds_if (rdt_test (Rd.w (rd_op (rdw_var 2) (Rd.w (rd_int 0))))) (rds_ret (rd_call (rda_cons (rd_var 0) (rda_cons (rd_var 1) rda_nil)) (AL.cons (AL.cons AL.nil)).len)) rds_next)
      (rds_ret (rd_call (rda_cons (rd_var 0) (rda_cons (rd_var 1) rda_nil)) (AL.cons (AL.cons AL.nil)).len)))⟩)
      (fun a oe pn hz hfl => (pss_suiteN xs_NoRest (by decide) (by show 4 < N__law_told.length; decide) (pss_cons (ps_set (i := 4) sc.nd rfl (.inl rfl) (pe_lst (pa_cons (pe_callB (call_isE ec_NoRest hz.zc hfl) (by rfl) T.isinstance (by decide +kernel) (pa_cons (pv 3) (pa_cons (pe_glob (v := .ref A1_NoRest) (by rfl) g1_NoRest rfl) pa_nil))) (pa_cons (pe_callB (call_isE ec_NoRest hz.zc hfl) (by rfl) T.isinstance (by decide +kernel) (pa_cons (pv 3) (pa_cons (pe_glob (v := .ref A2_NoRest) (by rfl) g2_NoRest rfl) pa_nil))) (pa_cons (pe_callB (call_isE ec_NoRest hz.zc hfl) (by rfl) T.isinstance (by decide +kernel) (pa_cons (pv 3) (pa_cons (pe_glob (v := .ref A3_NoRest) (by rfl) g3_NoRest rfl) pa_nil))) (pa_cons (pe_callB (call_isE ec_NoRest hz.zc hfl) (by rfl) T.isinstance (by decide +kernel) (pa_cons (pv 3) (pa_cons (pe_glob (v := .ref A4_NoRest) (by rfl) g4_NoRest rfl) pa_nil))) pa_nil)))))) (pss_one (ps_ret (pe_op op_S1 pe_str (pe_callTy cr_intX (by rfl) T.int (by decide +kernel) (pa_cons (pe_and (pe_callB (call_isE ec_NoRest hz.zc hfl) (by rfl) T.isinstance (by decide +kernel) (pa_cons (pv 3) (pa_cons (pe_glob (v := .ref S_NoRest) (by rfl) gS_NoRest rfl) pa_nil))) (pe_and (pe_callB (call_isE ec_NoRest hz.zc hfl) (by rfl) T.isinstance (by decide +kernel) (pa_cons (pv 3) (pa_cons (pe_bltn (v := .ty "ValueError") (by rfl) T.ValueError (by decide +kernel) rfl) pa_nil))) (pe_one (pe_not (pe_callB (cr_anyHot (hot_of hz hfl)) (by rfl) T.any (by decide +kernel) (pa_cons (pv 4) pa_nil)))))) pa_nil)))))))))),
      rds_sem⟩
theorem fk__law_told {f : Addr} {fd : FuncData} (F : Fun K "_law_told" "_law_told" s__law_told f fd) (T : Bt K cl mg) (c_burn : Cal P w K mg base cl (L2N.CX P w) "burn" 3 2 Dg.P_burn) (c_is_lasting : Cal P w K mg base cl (L2N.CX P w) "is_lasting" 4 2 Dg.P_is_lasting) : FnOk P w K mg base CX0 5 f fd ["_law_yard_here", "_law_grains_here", "_law_which"] (spF K cl 3 Dg.L_told) := by
  have h := fn_ok (P := P) (w := w) (mg := mg) (base := base) (cl := cl) (k := 4) (n := 3) (b := Dg.b_L_told) F sc__law_told rfl (fun cdv A outer s H E hr => rd__law_told T c_burn c_is_lasting hr)
  exact h
theorem ok__law_told (D : Df K mg "_law_told" s__law_told) (T : Bt K cl mg) (c_burn : Cal P w K mg base cl (L2N.CX P w) "burn" 3 2 Dg.P_burn) (c_is_lasting : Cal P w K mg base cl (L2N.CX P w) "is_lasting" 4 2 Dg.P_is_lasting) : Cal P w K mg base cl CX0 "_law_told" 5 3 Dg.L_told := by
  obtain ⟨f, fd, F, gl⟩ := D
  exact ⟨f, fd, _, fk__law_told F T c_burn c_is_lasting, gl, F.kp, F.binds (ps := ["_law_yard_here", "_law_grains_here", "_law_which"]) fun _ _ _ _ _ _ us hl => match us, hl with | [_, _, _], _ => rfl⟩
theorem rd__law_cell_at (T : Bt K cl mg)  {f : Addr} {cdv : Value} {A : Around} {outer : List Env} {s : Shared} {H : Hp} {E : XK} (hr : Room 0 (A.deeper (envOfC "_law_cell_at" (defScope s__law_cell_at) s.heap.objs.size f cdv))) :
    ∃ t, PSs (cxOf CX0 P w K mg base N__law_cell_at "_law_cell_at" (defScope s__law_cell_at) f cdv A outer s H E).nox (defBody s__law_cell_at) t ∧ RdS K cl E0 t Dg.b_L_cell_at := by
  have sc := sc__law_cell_at
  exact ⟨_, (pss_cons (ps_if (pt_cmpR (op_ltX hr.units) (pv 1) (pe_callB cr_lenX (by rfl) T.len (by decide +kernel) (pa_cons (pv 0) pa_nil)) (nomark _)) (pss_one (ps_ret (pe_ix ix_X (pv 0) (pv 1) (fun _ _ => rfl)))) pss_nil)
      (pss_one (ps_ret pe_int))),
      (rds_seq (rds_if (rdt_test (Rd.w (rd_op (rdw_var 1) (Rd.w (rd_b1 (rdw_var 0)))))) (rds_ret (rd_op (rdw_var 0) (rdw_var 1))) rds_next)
      (rds_ret (rd_int 0)))⟩
theorem fk__law_cell_at {f : Addr} {fd : FuncData} (F : Fun K "_law_cell_at" "_law_cell_at" s__law_cell_at f fd) (T : Bt K cl mg)  : FnOk P w K mg base CX0 1 f fd ["_law_script", "_law_k"] (spF K cl 2 Dg.L_cell_at) := by
  have h := fn_ok (P := P) (w := w) (mg := mg) (base := base) (cl := cl) (k := 0) (n := 2) (b := Dg.b_L_cell_at) F sc__law_cell_at rfl (fun cdv A outer s H E hr => rd__law_cell_at T  hr)
  exact h
theorem ok__law_cell_at (D : Df K mg "_law_cell_at" s__law_cell_at) (T : Bt K cl mg)  : Cal P w K mg base cl CX0 "_law_cell_at" 1 2 Dg.L_cell_at := by
  obtain ⟨f, fd, F, gl⟩ := D
  exact ⟨f, fd, _, fk__law_cell_at F T , gl, F.kp, F.binds (ps := ["_law_script", "_law_k"]) fun _ _ _ _ _ _ us hl => match us, hl with | [_, _], _ => rfl⟩
theorem rd__law_mixed (T : Bt K cl mg) (c__law_cell_at : Cal P w K mg base cl CX0 "_law_cell_at" 1 2 Dg.L_cell_at) {f : Addr} {cdv : Value} {A : Around} {outer : List Env} {s : Shared} {H : Hp} {E : XK} (hr : Room 1 (A.deeper (envOfC "_law_mixed" (defScope s__law_mixed) s.heap.objs.size f cdv))) :
    ∃ t, PSs (cxOf CX0 P w K mg base N__law_mixed "_law_mixed" (defScope s__law_mixed) f cdv A outer s H E).nox (defBody s__law_mixed) t ∧ RdS K cl E0 t Dg.b_L_mixed := by
  obtain ⟨f__law_cell_at, d__law_cell_at, p__law_cell_at, c__law_cell_at_⟩ := c__law_cell_at
  have c__law_cell_at := c__law_cell_at_
  have sc := sc__law_mixed
  exact ⟨_, (pss_cons (ps_set (i := 2) sc.nd rfl (.inl rfl) (pe_op op_modX (pe_op op_mulX (pe_op op_addX (pe_op op_addX (pe_call c__law_cell_at.ok (hr.mono (by decide)) rfl c__law_cell_at.gl c__law_cell_at.kp c__law_cell_at.bi .nil pass0 (pa_cons (pv 0) (pa_cons (pv 1) pa_nil))) (pe_op op_mulX pe_int (pv 1))) pe_int) pe_int) pe_int))
      (pss_one (ps_ret (pe_op op_modX (pe_op op_addX (pe_op op_addX (pe_op op_mulX (pv 2) (pv 2)) (pe_op op_mulX pe_int (pv 2))) (pv 1)) pe_int)))),
      (rds_seq (rds_asg (rd_op (Rd.w (rd_op (Rd.w (rd_op (Rd.w (rd_op (Rd.w (rd_call0 (rda_cons (rd_var 0) (rda_cons (rd_var 1) rda_nil)) (AL.cons (AL.cons AL.nil)).len)) (Rd.w (rd_op (Rd.w (rd_int 7919)) (rdw_var 1))))) (Rd.w (rd_int 1)))) (Rd.w (rd_int 48271)))) (Rd.w (rd_int 2147483647))) (rdg_name 2))
      (rds_ret (rd_op (Rd.w (rd_op (Rd.w (rd_op (Rd.w (rd_op (rdw_var 2) (rdw_var 2))) (Rd.w (rd_op (Rd.w (rd_int 7)) (rdw_var 2))))) (rdw_var 1))) (Rd.w (rd_int 2147483629)))))⟩
theorem fk__law_mixed {f : Addr} {fd : FuncData} (F : Fun K "_law_mixed" "_law_mixed" s__law_mixed f fd) (T : Bt K cl mg) (c__law_cell_at : Cal P w K mg base cl CX0 "_law_cell_at" 1 2 Dg.L_cell_at) : FnOk P w K mg base CX0 2 f fd ["_law_script", "_law_k"] (spF K cl 2 Dg.L_mixed) := by
  have h := fn_ok (P := P) (w := w) (mg := mg) (base := base) (cl := cl) (k := 1) (n := 2) (b := Dg.b_L_mixed) F sc__law_mixed rfl (fun cdv A outer s H E hr => rd__law_mixed T c__law_cell_at hr)
  exact h
theorem ok__law_mixed (D : Df K mg "_law_mixed" s__law_mixed) (T : Bt K cl mg) (c__law_cell_at : Cal P w K mg base cl CX0 "_law_cell_at" 1 2 Dg.L_cell_at) : Cal P w K mg base cl CX0 "_law_mixed" 2 2 Dg.L_mixed := by
  obtain ⟨f, fd, F, gl⟩ := D
  exact ⟨f, fd, _, fk__law_mixed F T c__law_cell_at, gl, F.kp, F.binds (ps := ["_law_script", "_law_k"]) fun _ _ _ _ _ _ us hl => match us, hl with | [_, _], _ => rfl⟩
theorem rd_law (T : Bt K cl mg) (c__law_yard : Cal P w K mg base cl CX0 "_law_yard" 2 3 Dg.L_yard) (c__law_mixed : Cal P w K mg base cl CX0 "_law_mixed" 2 2 Dg.L_mixed) (c__law_sizes : Cal P w K mg base cl CX0 "_law_sizes" 2 1 Dg.L_sizes) (c__law_drawn : Cal P w K mg base cl CX0 "_law_drawn" 1 2 Dg.L_drawn) (c__law_told : Cal P w K mg base cl CX0 "_law_told" 5 3 Dg.L_told) (c__law_between : Cal P w K mg base cl CX0 "_law_between" 1 3 Dg.L_between) {f : Addr} {cdv : Value} {A : Around} {outer : List Env} {s : Shared} {H : Hp} {E : XK} (hr : Room 5 (A.deeper (envOfC "law" (defScope s_law) s.heap.objs.size f cdv))) :
    ∃ t, PSs (cxOf CX0 P w K mg base N_law "law" (defScope s_law) f cdv A outer s H E).nox (defBody s_law) t ∧ RdS K cl E0 t Dg.b_P_law := by
  obtain ⟨f__law_yard, d__law_yard, p__law_yard, c__law_yard_⟩ := c__law_yard
  have c__law_yard := c__law_yard_
  obtain ⟨f__law_mixed, d__law_mixed, p__law_mixed, c__law_mixed_⟩ := c__law_mixed
  have c__law_mixed := c__law_mixed_
  obtain ⟨f__law_sizes, d__law_sizes, p__law_sizes, c__law_sizes_⟩ := c__law_sizes
  have c__law_sizes := c__law_sizes_
  obtain ⟨f__law_drawn, d__law_drawn, p__law_drawn, c__law_drawn_⟩ := c__law_drawn
  have c__law_drawn := c__law_drawn_
  obtain ⟨f__law_told, d__law_told, p__law_told, c__law_told_⟩ := c__law_told
  have c__law_told := c__law_told_
  obtain ⟨f__law_between, d__law_between, p__law_between, c__law_between_⟩ := c__law_between
  have c__law_between := c__law_between_
  have sc := sc_law
  exact ⟨_, (pss_cons (ps_set (i := 1) sc.nd rfl (.inr rfl) (pe_call c__law_yard.ok (hr.mono (by decide)) rfl c__law_yard.gl c__law_yard.kp c__law_yard.bi .nil pass0 (pa_cons (pe_call c__law_mixed.ok (hr.mono (by decide)) rfl c__law_mixed.gl c__law_mixed.kp c__law_mixed.bi .nil pass0 (pa_cons (pv 0) (pa_cons pe_int pa_nil))) (pa_cons pe_int (pa_cons pe_int pa_nil)))))
      (pss_cons (ps_set (i := 2) sc.nd rfl (.inl rfl) (pe_ix ix_X (pv 1) pe_int (fun _ _ => rfl)))
      (pss_cons (ps_set (i := 3) sc.nd rfl (.inl rfl) (pe_call c__law_sizes.ok (hr.mono (by decide)) rfl c__law_sizes.gl c__law_sizes.kp c__law_sizes.bi .nil pass0 (pa_cons (pv 1) pa_nil)))
      (pss_cons (ps_set (i := 4) sc.nd rfl (.inl rfl) (pe_ix ix_X (pe_lst (pa_cons pe_int (pa_cons pe_int (pa_cons pe_int (pa_cons pe_int pa_nil))))) (pe_op op_modX (pe_call c__law_mixed.ok (hr.mono (by decide)) rfl c__law_mixed.gl c__law_mixed.kp c__law_mixed.bi .nil pass0 (pa_cons (pv 0) (pa_cons pe_int pa_nil))) pe_int) (fun _ _ => rfl)))
      (pss_cons (ps_set (i := 5) sc.nd rfl (.inl rfl) (pe_tup pa_nil))
      (pss_cons (ps_for PassesOwn.never rfl (pi_enumA (by rfl) T.enumerate (pa_cons (pv 3) pa_nil)) (pg_tup (n := 2) rfl (pgs_cons (pg_name (i := 6) sc.nd rfl (by first | exact Or.inl rfl | exact Or.inr rfl)) (pgs_cons (pg_name (i := 7) sc.nd rfl (by first | exact Or.inl rfl | exact Or.inr rfl)) pgs_nil))) (pss_one (ps_set (i := 5) sc.nd rfl (.inl rfl) (pe_op op_addX (pv 5) (pe_tup (pa_cons (pe_op op_subX (pe_op op_subX (pv 7) pe_int) (pe_op op_fdivX (pe_op op_modX (pe_call c__law_drawn.ok (hr.mono (by decide)) rfl c__law_drawn.gl c__law_drawn.kp c__law_drawn.bi .nil pass0 (pa_cons (pe_call c__law_mixed.ok (hr.mono (by decide)) rfl c__law_mixed.gl c__law_mixed.kp c__law_mixed.bi .nil pass0 (pa_cons (pv 0) (pa_cons pe_int pa_nil))) (pa_cons (pv 6) pa_nil))) (pv 7)) (pv 4))) pa_nil))))))
      (pss_cons (ps_if (pt_cmpR (op_eqX hr.units) (pe_op op_modX (pe_call c__law_mixed.ok (hr.mono (by decide)) rfl c__law_mixed.gl c__law_mixed.kp c__law_mixed.bi .nil pass0 (pa_cons (pv 0) (pa_cons pe_int pa_nil))) pe_int) pe_int (nomark _)) (pss_cons (ps_set (i := 8) sc.nd rfl (.inl rfl) (pe_op op_modX (pe_op op_fdivX (pe_call c__law_mixed.ok (hr.mono (by decide)) rfl c__law_mixed.gl c__law_mixed.kp c__law_mixed.bi .nil pass0 (pa_cons (pv 0) (pa_cons pe_int pa_nil))) pe_int) (pv 2)))
      (pss_cons (ps_set (i := 5) sc.nd rfl (.inl rfl) (pe_op op_addX (pe_op op_addX (pe_slice sl_X (pv 5) po_none (po_some (pv 8))) (pe_tup (pa_cons (pe_op op_addX (pe_ix ix_X (pv 3) (pv 8) (fun _ _ => rfl)) (pe_op op_modX (pe_op op_fdivX (pe_call c__law_mixed.ok (hr.mono (by decide)) rfl c__law_mixed.gl c__law_mixed.kp c__law_mixed.bi .nil pass0 (pa_cons (pv 0) (pa_cons pe_int pa_nil))) pe_int) pe_int)) pa_nil))) (pe_slice sl_X (pv 5) (po_some (pe_op op_addX (pv 8) pe_int)) po_none)))
      (pss_one (ps_ret (pe_and (pe_cmpR (op_eqX hr.units) (pe_call c__law_told.ok (hr.mono (by decide)) rfl c__law_told.gl c__law_told.kp c__law_told.bi .nil pass0 (pa_cons (pv 1) (pa_cons (pv 5) (pa_cons pe_int pa_nil)))) pe_str (nomark _)) (pe_one (pe_cmpR (op_eqX hr.units) (pe_call c__law_told.ok (hr.mono (by decide)) rfl c__law_told.gl c__law_told.kp c__law_told.bi .nil pass0 (pa_cons (pv 1) (pa_cons (pv 5) (pa_cons pe_int pa_nil)))) pe_str (nomark _)))))))) pss_nil)
      (pss_cons (ps_set (i := 9) sc.nd rfl (.inr rfl) (pe_lst (pa_cons pe_int pa_nil)))
      (pss_cons (ps_set (i := 10) sc.nd rfl (.inl rfl) (pe_lst pa_nil))
      (pss_cons (ps_for PassesOwn.never rfl (pi_range1 (by rfl) T.range (pa_cons (pe_op op_addX (pv 2) pe_int) pa_nil)) (pg_name (i := 6) sc.nd rfl (by first | exact Or.inl rfl | exact Or.inr rfl)) (pss_cons (ps_set (i := 11) sc.nd rfl (.inl rfl) (pe_lst pa_nil))
      (pss_cons (ps_for PassesOwn.never rfl (pi_range2 (by rfl) T.range (pa_cons pe_int (pa_cons (pe_op op_addX (pv 2) pe_int) pa_nil))) (pg_name (i := 12) sc.nd rfl (by first | exact Or.inl rfl | exact Or.inr rfl)) (pss_cons (ps_setLc (i := 13) (own := [("_law_other", 16)]) rfl sc.nd rfl rfl (sw_true rfl rfl rfl (by decide +kernel)) (pi_range2 (by rfl) T.range (pa_cons pe_int (pa_cons (pe_op op_addX (pv 2) pe_int) pa_nil))) (blkOk_by (N := N_law) (sc := defScope s_law) (by decide +kernel)) (fun _ _ _ _ _ => (pg_name (i := 16) sc.nd rfl (by first | exact Or.inl rfl | exact Or.inr rfl))) (fun _ _ _ _ _ => (pts_one (PW.pt (pw_and (pt_cmpR (op_notInX hr.units) (pv 16) (pv 9) (by rfl)) (pw_and1 (pt_cmpR (op_neX hr.units) (pv 16) (pv 12) (nomark _))))))) (fun _ _ _ _ _ => (pv 16)))
      (pss_cons (ps_set (i := 14) sc.nd rfl (.inl rfl) (pe_callB (cr_sumX rfl) (by rfl) T.sum (by decide +kernel) (pa_cons (pe_lc (own := [("_law_other", 16)]) rfl sc.nd (pi_seq (pv 13)) (blkOk_by (N := N_law) (sc := defScope s_law) (by decide +kernel)) (fun _ _ _ _ _ => (pg_name (i := 16) sc.nd rfl (by first | exact Or.inl rfl | exact Or.inr rfl))) (fun _ _ _ _ _ => pts_nil) (fun _ _ _ _ _ => (pe_call c__law_between.ok (hr.mono (by decide)) rfl c__law_between.gl c__law_between.kp c__law_between.bi .nil pass0 (pa_cons (pv 1) (pa_cons (pv 12) (pa_cons (pv 16) pa_nil)))))) pa_nil)))
      (pss_one (ps_if (PW.pt (pw_and (pt_cmpR (op_notInX hr.units) (pv 12) (pv 9) (by rfl)) (pw_and1 (pt_cmpR (op_geX hr.units) (pe_ix ix_X (pv 5) (pe_op op_subX (pv 12) pe_int) (fun _ _ => rfl)) (pv 14) (nomark _))))) (pss_one (ps_expr (pe_bm PySem.F.plainAttrs_list PySem.F.slot_list_append PySem.F.type_list_append mt_append (pv 11) (pa_cons (pv 12) pa_nil)))) pss_nil)))))
      (pss_cons (ps_if (pt_cmpR (op_neX hr.units) (pv 11) (pe_lst pa_nil) (nomark _)) (pss_one (ps_expr (pe_bm PySem.F.plainAttrs_list PySem.F.slot_list_append PySem.F.type_list_append mt_append (pv 10) (pa_cons (pe_callTy cr_tupX (by rfl) T.tuple (by decide +kernel) (pa_cons (pv 11) pa_nil)) pa_nil)))) pss_nil)
      (pss_one (ps_set (i := 9) sc.nd rfl (.inr rfl) (pe_op op_addX (pv 9) (pv 11))))))))
      (pss_cons (ps_set (i := 15) sc.nd rfl (.inl rfl) (pe_call c__law_told.ok (hr.mono (by decide)) rfl c__law_told.gl c__law_told.kp c__law_told.bi .nil pass0 (pa_cons (pv 1) (pa_cons (pv 5) (pa_cons pe_int pa_nil)))))
      (pss_one (ps_ret (pe_and (pe_cmpR (op_eqX hr.units) (pe_call c__law_told.ok (hr.mono (by decide)) rfl c__law_told.gl c__law_told.kp c__law_told.bi .nil pass0 (pa_cons (pv 1) (pa_cons (pv 5) (pa_cons pe_int pa_nil)))) (pe_callTy cr_tupX (by rfl) T.tuple (by decide +kernel) (pa_cons (pv 10) pa_nil)) (nomark _)) (pe_and (pe_callB (cr_isiX 1 (by decide)) (by rfl) T.isinstance (by decide +kernel) (pa_cons (pv 15) (pa_cons (pe_bltn (v := .ty "bool") (by rfl) T.bool (by decide +kernel) rfl) pa_nil))) (pe_one (pe_cmpR (op_eqX hr.units) (pv 15) (pe_cmpR (op_eqX hr.units) (pe_callB cr_lenX (by rfl) T.len (by decide +kernel) (pa_cons (pv 9) pa_nil)) (pe_op op_addX (pv 2) pe_int) (nomark _)) (nomark _)))))))))))))))))),
      (rds_seq (rds_asg (rd_call0 (rda_cons (rd_call0 (rda_cons (rd_var 0) (rda_cons (rd_int 0) rda_nil)) (AL.cons (AL.cons AL.nil)).len) (rda_cons (rd_int 5) (rda_cons (rd_int 4) rda_nil))) (AL.cons (AL.cons (AL.cons AL.nil))).len) (rdg_name 1))
      (rds_seq (rds_asg (rd_op (rdw_var 1) (Rd.w (rd_int 0))) (rdg_name 2))
      (rds_seq (rds_asg (rd_call0 (rda_cons (rd_var 1) rda_nil) (AL.cons AL.nil).len) (rdg_name 3))
      (rds_seq (rds_asg (rd_op (Rd.w (RdN.d (rdn_lst (rda_cons (rd_int 1) (rda_cons (rd_int 1) (rda_cons (rd_int 2) (rda_cons (rd_int 3) rda_nil))))))) (Rd.w (rd_op (Rd.w (rd_call0 (rda_cons (rd_var 0) (rda_cons (rd_int 2) rda_nil)) (AL.cons (AL.cons AL.nil)).len)) (Rd.w (rd_int 4))))) (rdg_name 4))
      (rds_seq (rds_asg (rd_tup rda_nil) (rdg_name 5))
      (rds_seq (rds_for (rdi_enumA (rd_var 3)) (rdg_tup (rdgs_cons 6 (rdgs_cons 7 rdgs_nil))) (rds_asg (rd_op (rdw_var 5) (Rd.w (rd_tup (rda_cons (rd_op (Rd.w (rd_op (rdw_var 7) (Rd.w (rd_int 1)))) (Rd.w (rd_op (Rd.w (rd_op (Rd.w (rd_call0 (rda_cons (rd_call0 (rda_cons (rd_var 0) (rda_cons (rd_int 1) rda_nil)) (AL.cons (AL.cons AL.nil)).len) (rda_cons (rd_var 6) rda_nil)) (AL.cons (AL.cons AL.nil)).len)) (rdw_var 7))) (rdw_var 4)))) rda_nil)))) (rdg_name 5)))
      (rds_seq (rds_if (rdt_test (Rd.w (rd_op (Rd.w (rd_op (Rd.w (rd_call0 (rda_cons (rd_var 0) (rda_cons (rd_int 3) rda_nil)) (AL.cons (AL.cons AL.nil)).len)) (Rd.w (rd_int 5)))) (Rd.w (rd_int 1))))) (rds_seq (rds_asg (rd_op (Rd.w (rd_op (Rd.w (rd_call0 (rda_cons (rd_var 0) (rda_cons (rd_int 3) rda_nil)) (AL.cons (AL.cons AL.nil)).len)) (Rd.w (rd_int 5)))) (rdw_var 2)) (rdg_name 8))
      (rds_seq (rds_asg (rd_op (Rd.w (rd_op (Rd.w (rd_cut (rdw_var 5) rdo_no (rdo_int (rdw_var 8)))) (Rd.w (rd_tup (rda_cons (rd_op (Rd.w (rd_op (rdw_var 3) (rdw_var 8))) (Rd.w (rd_op (Rd.w (rd_op (Rd.w (rd_call0 (rda_cons (rd_var 0) (rda_cons (rd_int 3) rda_nil)) (AL.cons (AL.cons AL.nil)).len)) (Rd.w (rd_int 25)))) (Rd.w (rd_int 3))))) rda_nil))))) (Rd.w (rd_cut (rdw_var 5) (rdo_int (Rd.w (rd_op (rdw_var 8) (Rd.w (rd_int 1))))) rdo_no))) (rdg_name 5))
      (rds_ret (rd_and (Rd.w (rd_op (Rd.w (rd_call0 (rda_cons (rd_var 1) (rda_cons (rd_var 5) (rda_cons (rd_int 0) rda_nil))) (AL.cons (AL.cons (AL.cons AL.nil))).len)) (Rd.w (rd_str "none")))) (rd_op (Rd.w (rd_call0 (rda_cons (rd_var 1) (rda_cons (rd_var 5) (rda_cons (rd_int 1) rda_nil))) (AL.cons (AL.cons (AL.cons AL.nil))).len)) (Rd.w (rd_str "none"))))))) rds_next)
      (rds_seq (rds_asg (RdN.d (rdn_lst (rda_cons (rd_int 0) rda_nil))) (rdg_name 9))
      (rds_seq (rds_own 10 (rdn_lst rda_nil))
      (rds_seq (rds_for (rdi_rng1 (Rd.w (rd_op (rdw_var 2) (Rd.w (rd_int 1))))) (rdg_name 6) (rds_seq (rds_own 11 (rdn_lst rda_nil))
      (rds_seq (rds_for (rdi_rng2 (Rd.w (rd_int 1)) (Rd.w (rd_op (rdw_var 2) (Rd.w (rd_int 1))))) (rdg_name 12) (rds_seq (rds_asg (RdN.d (rdn_comp (E2 := E0) (rdi_rng2 (Rd.w (rd_int 1)) (Rd.w (rd_op (rdw_var 2) (Rd.w (rd_int 1))))) (rdg_name 16) (by decide) (rdt_and (rdt_test (Rd.w (rd_op (rdw_var 16) (rdw_var 9)))) (rdt_test (Rd.w (rd_op (rdw_var 16) (rdw_var 12))))) (rd_var 16))) (rdg_name 13))
      (rds_seq (rds_asg (rd_b1 (Rd.w (RdN.d (rdn_comp (E2 := E0) (rdi_seq (rd_var 13)) (rdg_name 16) (by decide) rdt_yes (rd_call0 (rda_cons (rd_var 1) (rda_cons (rd_var 12) (rda_cons (rd_var 16) rda_nil))) (AL.cons (AL.cons (AL.cons AL.nil))).len))))) (rdg_name 14))
      (rds_if (rdt_and (rdt_test (Rd.w (rd_op (rdw_var 12) (rdw_var 9)))) (rdt_test (Rd.w (rd_op (Rd.w (rd_op (rdw_var 5) (Rd.w (rd_op (rdw_var 12) (Rd.w (rd_int 1)))))) (rdw_var 14))))) (rds_app 11 (rd_var 12)) rds_next))))
      (rds_seq (rds_if (rdt_test (Rd.w (rd_op (rdw_var 11) (Rd.w (RdN.d (rdn_lst rda_nil)))))) (rds_app 10 (rd_b1 (rdw_var 11))) rds_next)
      (rds_asg (rd_op (rdw_var 9) (rdw_var 11)) (rdg_name 9))))))
      (rds_seq (rds_asg (rd_call0 (rda_cons (rd_var 1) (rda_cons (rd_var 5) (rda_cons (rd_int 1) rda_nil))) (AL.cons (AL.cons (AL.cons AL.nil))).len) (rdg_name 15))
      (rds_ret (rd_and (Rd.w (rd_op (Rd.w (rd_call0 (rda_cons (rd_var 1) (rda_cons (rd_var 5) (rda_cons (rd_int 0) rda_nil))) (AL.cons (AL.cons (AL.cons AL.nil))).len)) (Rd.w (rd_b1 (rdw_var 10))))) (rd_and (Rd.w (rd_isi 1 (rdw_var 15))) (rd_op (rdw_var 15) (Rd.w (rd_op (Rd.w (rd_b1 (rdw_var 9))) (Rd.w (rd_op (rdw_var 2) (Rd.w (rd_int 1)))))))))))))))))))))⟩
theorem fk_law {f : Addr} {fd : FuncData} (F : Fun K "law" "law" s_law f fd) (T : Bt K cl mg) (c__law_yard : Cal P w K mg base cl CX0 "_law_yard" 2 3 Dg.L_yard) (c__law_mixed : Cal P w K mg base cl CX0 "_law_mixed" 2 2 Dg.L_mixed) (c__law_sizes : Cal P w K mg base cl CX0 "_law_sizes" 2 1 Dg.L_sizes) (c__law_drawn : Cal P w K mg base cl CX0 "_law_drawn" 1 2 Dg.L_drawn) (c__law_told : Cal P w K mg base cl CX0 "_law_told" 5 3 Dg.L_told) (c__law_between : Cal P w K mg base cl CX0 "_law_between" 1 3 Dg.L_between) : FnOk P w K mg base CX0 6 f fd ["_law_script"] (spF K cl 1 Dg.P_law) := by
  have h := fn_ok (P := P) (w := w) (mg := mg) (base := base) (cl := cl) (k := 5) (n := 1) (b := Dg.b_P_law) F sc_law rfl (fun cdv A outer s H E hr => rd_law T c__law_yard c__law_mixed c__law_sizes c__law_drawn c__law_told c__law_between hr)
  exact h
theorem ok_law (D : Df K mg "law" s_law) (T : Bt K cl mg) (c__law_yard : Cal P w K mg base cl CX0 "_law_yard" 2 3 Dg.L_yard) (c__law_mixed : Cal P w K mg base cl CX0 "_law_mixed" 2 2 Dg.L_mixed) (c__law_sizes : Cal P w K mg base cl CX0 "_law_sizes" 2 1 Dg.L_sizes) (c__law_drawn : Cal P w K mg base cl CX0 "_law_drawn" 1 2 Dg.L_drawn) (c__law_told : Cal P w K mg base cl CX0 "_law_told" 5 3 Dg.L_told) (c__law_between : Cal P w K mg base cl CX0 "_law_between" 1 3 Dg.L_between) : Cal P w K mg base cl CX0 "law" 6 1 Dg.P_law := by
  obtain ⟨f, fd, F, gl⟩ := D
  exact ⟨f, fd, _, fk_law F T c__law_yard c__law_mixed c__law_sizes c__law_drawn c__law_told c__law_between, gl, F.kp, F.binds (ps := ["_law_script"]) fun _ _ _ _ _ _ us hl => match us, hl with | [_], _ => rfl⟩
end
end Wk

namespace Wk
open PySem PySem.Spec PyProof.Rows L2 Dw
theorem all_mk {l : PySem.W.OpenLaw} {w : World} {K : PySem.W.Frag} {h : Heap} {mg : Str → Option Value} {fa : Addr} (X : K.In h) (G : h.Ns mainGlobals mg) (hfa : mg "law" = some (.ref fa))
    {f0 : Addr} {od0 an0 : Option Addr} {sl0 : Array (Option Value)} {oc0 kV0 dc0 pm0 cd0 ct0 : Value}
    (a0 : PySem.W.nsIn K mainGlobals "_law_drawn" = some (some (.ref f0))) (l0 : K.lookup f0 = some ⟨oc0, od0, .func (PySem.W.fnOf "_law_drawn" "_law_drawn" (defArgs s__law_drawn) (defBody s__law_drawn) (defScope s__law_drawn) .none kV0 dc0 pm0 an0 cd0 ct0), sl0⟩) (c0 : PySem.W.codeIn K cd0 "_law_drawn" = true) (k0 : PySem.W.keepIn K (.ref f0) = true)
    {f1 : Addr} {od1 an1 : Option Addr} {sl1 : Array (Option Value)} {oc1 kV1 dc1 pm1 cd1 ct1 : Value}
    (a1 : PySem.W.nsIn K mainGlobals "_law_yard" = some (some (.ref f1))) (l1 : K.lookup f1 = some ⟨oc1, od1, .func (PySem.W.fnOf "_law_yard" "_law_yard" (defArgs s__law_yard) (defBody s__law_yard) (defScope s__law_yard) .none kV1 dc1 pm1 an1 cd1 ct1), sl1⟩) (c1 : PySem.W.codeIn K cd1 "_law_yard" = true) (k1 : PySem.W.keepIn K (.ref f1) = true)
    {f2 : Addr} {od2 an2 : Option Addr} {sl2 : Array (Option Value)} {oc2 kV2 dc2 pm2 cd2 ct2 : Value}
    (a2 : PySem.W.nsIn K mainGlobals "_law_between" = some (some (.ref f2))) (l2 : K.lookup f2 = some ⟨oc2, od2, .func (PySem.W.fnOf "_law_between" "_law_between" (defArgs s__law_between) (defBody s__law_between) (defScope s__law_between) .none kV2 dc2 pm2 an2 cd2 ct2), sl2⟩) (c2 : PySem.W.codeIn K cd2 "_law_between" = true) (k2 : PySem.W.keepIn K (.ref f2) = true)
    {f3 : Addr} {od3 an3 : Option Addr} {sl3 : Array (Option Value)} {oc3 kV3 dc3 pm3 cd3 ct3 : Value}
    (a3 : PySem.W.nsIn K mainGlobals "_law_sizes" = some (some (.ref f3))) (l3 : K.lookup f3 = some ⟨oc3, od3, .func (PySem.W.fnOf "_law_sizes" "_law_sizes" (defArgs s__law_sizes) (defBody s__law_sizes) (defScope s__law_sizes) .none kV3 dc3 pm3 an3 cd3 ct3), sl3⟩) (c3 : PySem.W.codeIn K cd3 "_law_sizes" = true) (k3 : PySem.W.keepIn K (.ref f3) = true)
    {f4 : Addr} {od4 an4 : Option Addr} {sl4 : Array (Option Value)} {oc4 kV4 dc4 pm4 cd4 ct4 : Value}
    (a4 : PySem.W.nsIn K mainGlobals "sizes" = some (some (.ref f4))) (l4 : K.lookup f4 = some ⟨oc4, od4, .func (PySem.W.fnOf "sizes" "sizes" (defArgs s_sizes) (defBody s_sizes) (defScope s_sizes) .none kV4 dc4 pm4 an4 cd4 ct4), sl4⟩) (c4 : PySem.W.codeIn K cd4 "sizes" = true) (k4 : PySem.W.keepIn K (.ref f4) = true)
    {f5 : Addr} {od5 an5 : Option Addr} {sl5 : Array (Option Value)} {oc5 kV5 dc5 pm5 cd5 ct5 : Value}
    (a5 : PySem.W.nsIn K mainGlobals "rests" = some (some (.ref f5))) (l5 : K.lookup f5 = some ⟨oc5, od5, .func (PySem.W.fnOf "rests" "rests" (defArgs s_rests) (defBody s_rests) (defScope s_rests) .none kV5 dc5 pm5 an5 cd5 ct5), sl5⟩) (c5 : PySem.W.codeIn K cd5 "rests" = true) (k5 : PySem.W.keepIn K (.ref f5) = true)
    {f6 : Addr} {od6 an6 : Option Addr} {sl6 : Array (Option Value)} {oc6 kV6 dc6 pm6 cd6 ct6 : Value}
    (a6 : PySem.W.nsIn K mainGlobals "between" = some (some (.ref f6))) (l6 : K.lookup f6 = some ⟨oc6, od6, .func (PySem.W.fnOf "between" "between" (defArgs s_between) (defBody s_between) (defScope s_between) .none kV6 dc6 pm6 an6 cd6 ct6), sl6⟩) (c6 : PySem.W.codeIn K cd6 "between" = true) (k6 : PySem.W.keepIn K (.ref f6) = true)
    {f7 : Addr} {od7 an7 : Option Addr} {sl7 : Array (Option Value)} {oc7 kV7 dc7 pm7 cd7 ct7 : Value}
    (a7 : PySem.W.nsIn K mainGlobals "burn" = some (some (.ref f7))) (l7 : K.lookup f7 = some ⟨oc7, od7, .func (PySem.W.fnOf "burn" "burn" (defArgs s_burn) (defBody s_burn) (defScope s_burn) .none kV7 dc7 pm7 an7 cd7 ct7), sl7⟩) (c7 : PySem.W.codeIn K cd7 "burn" = true) (k7 : PySem.W.keepIn K (.ref f7) = true)
    {f8 : Addr} {od8 an8 : Option Addr} {sl8 : Array (Option Value)} {oc8 kV8 dc8 pm8 cd8 ct8 : Value}
    (a8 : PySem.W.nsIn K mainGlobals "is_lasting" = some (some (.ref f8))) (l8 : K.lookup f8 = some ⟨oc8, od8, .func (PySem.W.fnOf "is_lasting" "is_lasting" (defArgs s_is_lasting) (defBody s_is_lasting) (defScope s_is_lasting) .none kV8 dc8 pm8 an8 cd8 ct8), sl8⟩) (c8 : PySem.W.codeIn K cd8 "is_lasting" = true) (k8 : PySem.W.keepIn K (.ref f8) = true)
    {f9 : Addr} {od9 an9 : Option Addr} {sl9 : Array (Option Value)} {oc9 kV9 dc9 pm9 cd9 ct9 : Value}
    (a9 : PySem.W.nsIn K mainGlobals "_law_told" = some (some (.ref f9))) (l9 : K.lookup f9 = some ⟨oc9, od9, .func (PySem.W.fnOf "_law_told" "_law_told" (defArgs s__law_told) (defBody s__law_told) (defScope s__law_told) .none kV9 dc9 pm9 an9 cd9 ct9), sl9⟩) (c9 : PySem.W.codeIn K cd9 "_law_told" = true) (k9 : PySem.W.keepIn K (.ref f9) = true)
    {f10 : Addr} {od10 an10 : Option Addr} {sl10 : Array (Option Value)} {oc10 kV10 dc10 pm10 cd10 ct10 : Value}
    (a10 : PySem.W.nsIn K mainGlobals "_law_cell_at" = some (some (.ref f10))) (l10 : K.lookup f10 = some ⟨oc10, od10, .func (PySem.W.fnOf "_law_cell_at" "_law_cell_at" (defArgs s__law_cell_at) (defBody s__law_cell_at) (defScope s__law_cell_at) .none kV10 dc10 pm10 an10 cd10 ct10), sl10⟩) (c10 : PySem.W.codeIn K cd10 "_law_cell_at" = true) (k10 : PySem.W.keepIn K (.ref f10) = true)
    {f11 : Addr} {od11 an11 : Option Addr} {sl11 : Array (Option Value)} {oc11 kV11 dc11 pm11 cd11 ct11 : Value}
    (a11 : PySem.W.nsIn K mainGlobals "_law_mixed" = some (some (.ref f11))) (l11 : K.lookup f11 = some ⟨oc11, od11, .func (PySem.W.fnOf "_law_mixed" "_law_mixed" (defArgs s__law_mixed) (defBody s__law_mixed) (defScope s__law_mixed) .none kV11 dc11 pm11 an11 cd11 ct11), sl11⟩) (c11 : PySem.W.codeIn K cd11 "_law_mixed" = true) (k11 : PySem.W.keepIn K (.ref f11) = true)
    {f12 : Addr} {od12 an12 : Option Addr} {sl12 : Array (Option Value)} {oc12 kV12 dc12 pm12 cd12 ct12 : Value}
    (a12 : PySem.W.nsIn K mainGlobals "law" = some (some (.ref f12))) (l12 : K.lookup f12 = some ⟨oc12, od12, .func (PySem.W.fnOf "law" "law" (defArgs s_law) (defBody s_law) (defScope s_law) .none kV12 dc12 pm12 an12 cd12 ct12), sl12⟩) (c12 : PySem.W.codeIn K cd12 "law" = true) (k12 : PySem.W.keepIn K (.ref f12) = true)
    (z_ValueError : PySem.W.nsIn K mainGlobals "ValueError" = some none)
    (z_all : PySem.W.nsIn K mainGlobals "all" = some none)
    (z_any : PySem.W.nsIn K mainGlobals "any" = some none)
    (z_bool : PySem.W.nsIn K mainGlobals "bool" = some none)
    (z_enumerate : PySem.W.nsIn K mainGlobals "enumerate" = some none)
    (z_int : PySem.W.nsIn K mainGlobals "int" = some none)
    (z_isinstance : PySem.W.nsIn K mainGlobals "isinstance" = some none)
    (z_len : PySem.W.nsIn K mainGlobals "len" = some none)
    (z_list : PySem.W.nsIn K mainGlobals "list" = some none)
    (z_max : PySem.W.nsIn K mainGlobals "max" = some none)
    (z_min : PySem.W.nsIn K mainGlobals "min" = some none)
    (z_range : PySem.W.nsIn K mainGlobals "range" = some none)
    (z_sorted : PySem.W.nsIn K mainGlobals "sorted" = some none)
    (z_sum : PySem.W.nsIn K mainGlobals "sum" = some none)
    (z_tuple : PySem.W.nsIn K mainGlobals "tuple" = some none)
    (z_zip : PySem.W.nsIn K mainGlobals "zip" = some none)
    {C_NoRest : Addr} (e_NoRest : PySem.W.nsIn K mainGlobals "NoRest" = some (some (.ref C_NoRest))) (ic_NoRest : PySem.W.isClsIn K C_NoRest = true) (tc_NoRest : PySem.W.typeIn K (.ref C_NoRest) = some (.type "type"))
    {C_NoText : Addr} (e_NoText : PySem.W.nsIn K mainGlobals "NoText" = some (some (.ref C_NoText))) (ic_NoText : PySem.W.isClsIn K C_NoText = true) (tc_NoText : PySem.W.typeIn K (.ref C_NoText) = some (.type "type"))
    {C_NoTumble : Addr} (e_NoTumble : PySem.W.nsIn K mainGlobals "NoTumble" = some (some (.ref C_NoTumble))) (ic_NoTumble : PySem.W.isClsIn K C_NoTumble = true) (tc_NoTumble : PySem.W.typeIn K (.ref C_NoTumble) = some (.type "type"))
    {C_NoYard : Addr} (e_NoYard : PySem.W.nsIn K mainGlobals "NoYard" = some (some (.ref C_NoYard))) (ic_NoYard : PySem.W.isClsIn K C_NoYard = true) (tc_NoYard : PySem.W.typeIn K (.ref C_NoYard) = some (.type "type"))
    {C_NotLasting : Addr} (e_NotLasting : PySem.W.nsIn K mainGlobals "NotLasting" = some (some (.ref C_NotLasting))) (ic_NotLasting : PySem.W.isClsIn K C_NotLasting = true) (tc_NotLasting : PySem.W.typeIn K (.ref C_NotLasting) = some (.type "type"))
    {C_SandError : Addr} (e_SandError : PySem.W.nsIn K mainGlobals "SandError" = some (some (.ref C_SandError))) (ic_SandError : PySem.W.isClsIn K C_SandError = true) (tc_SandError : PySem.W.typeIn K (.ref C_SandError) = some (.type "type"))
    (rk_NoRest : PySem.W.keepIn K (.ref C_NoRest) = true) (rq_NoRest : PySem.W.excIn K C_NoRest [.type "ValueError", .type "Exception", .type "BaseException", .type "object"] "ValueError.__new__" = true)
    (rs_NoRest : PySem.W.subIn K (.ref C_NoRest) (.type "BaseException") = some true)
    (xs_NoRest : PySem.W.subIn K (.ref C_NoRest) (.ref C_NoRest) = some true) (x1_NoRest : PySem.W.findIn K (.ref C_NoRest) "__getattribute__" = some (some (.builtin "BaseException.__getattribute__"))) (x2_NoRest : PySem.W.findIn K (.ref C_NoRest) "__getattr__" = some none) (x4_NoRest : PySem.W.hasDictIn K C_NoRest = true) (x5_NoRest : PySem.W.findIn K (.ref C_NoRest) "__class__" = some (some (.builtin "object.__class__"))) (x6_NoRest : PySem.W.specialIn K (.builtin "object.__class__") "__get__" = some (some (.builtin "getset_descriptor.__get__"))) (x7_NoRest : PySem.W.takesIn K (.builtin "object.__class__") = some true) (x8_NoRest : PySem.W.mroIn K C_NoRest (.type "object") = some true)
    (n1_NoRest : (Value.ref C_NoRest == Value.ref C_NoYard) = false) (y1_NoRest : PySem.W.subIn K (.ref C_NoRest) (.ref C_NoYard) = some false)
    (n2_NoRest : (Value.ref C_NoRest == Value.ref C_NoText) = false) (y2_NoRest : PySem.W.subIn K (.ref C_NoRest) (.ref C_NoText) = some false)
    (n3_NoRest : (Value.ref C_NoRest == Value.ref C_NoTumble) = false) (y3_NoRest : PySem.W.subIn K (.ref C_NoRest) (.ref C_NoTumble) = some false)
    (n4_NoRest : (Value.ref C_NoRest == Value.ref C_NotLasting) = false) (y4_NoRest : PySem.W.subIn K (.ref C_NoRest) (.ref C_NotLasting) = some false)
    (yS_NoRest : PySem.W.subIn K (.ref C_NoRest) (.ref C_SandError) = some true) (yV_NoRest : PySem.W.subIn K (.ref C_NoRest) (.type "ValueError") = some true)
    (hb_NoRest_NoRest : PySem.W.subIn K (.ref C_NoRest) (.type "BaseException") = some true) (hs_NoRest_NoRest : PySem.W.subIn K (.ref C_NoRest) (.ref C_NoRest) = some true)
    : ∃ fd : FuncData, (∀ (s : Shared) (v : Value), BindsTo s fd ⟨[v], []⟩ [("_law_script", v)]) ∧ ∀ base : Heap, K.In base → base.Ns mainGlobals mg → FnOk l.prog w K mg base CX0 6 fa fd ["_law_script"] (spL K (Dn.runF 1 17 Dg.b_P_law)) := by
  have d__law_drawn : DfK K "_law_drawn" s__law_drawn := ⟨f0, a0, _, _, _, _, _, _, _, _, _, l0, c0, k0⟩
  have d__law_yard : DfK K "_law_yard" s__law_yard := ⟨f1, a1, _, _, _, _, _, _, _, _, _, l1, c1, k1⟩
  have d__law_between : DfK K "_law_between" s__law_between := ⟨f2, a2, _, _, _, _, _, _, _, _, _, l2, c2, k2⟩
  have d__law_sizes : DfK K "_law_sizes" s__law_sizes := ⟨f3, a3, _, _, _, _, _, _, _, _, _, l3, c3, k3⟩
  have d_sizes : DfK K "sizes" s_sizes := ⟨f4, a4, _, _, _, _, _, _, _, _, _, l4, c4, k4⟩
  have d_rests : DfK K "rests" s_rests := ⟨f5, a5, _, _, _, _, _, _, _, _, _, l5, c5, k5⟩
  have d_between : DfK K "between" s_between := ⟨f6, a6, _, _, _, _, _, _, _, _, _, l6, c6, k6⟩
  have d_burn : DfK K "burn" s_burn := ⟨f7, a7, _, _, _, _, _, _, _, _, _, l7, c7, k7⟩
  have d_is_lasting : DfK K "is_lasting" s_is_lasting := ⟨f8, a8, _, _, _, _, _, _, _, _, _, l8, c8, k8⟩
  have d__law_told : DfK K "_law_told" s__law_told := ⟨f9, a9, _, _, _, _, _, _, _, _, _, l9, c9, k9⟩
  have d__law_cell_at : DfK K "_law_cell_at" s__law_cell_at := ⟨f10, a10, _, _, _, _, _, _, _, _, _, l10, c10, k10⟩
  have d__law_mixed : DfK K "_law_mixed" s__law_mixed := ⟨f11, a11, _, _, _, _, _, _, _, _, _, l11, c11, k11⟩
  have d_law : DfK K "law" s_law := ⟨f12, a12, _, _, _, _, _, _, _, _, _, l12, c12, k12⟩
  have T : Bt K (fun x => if x = "NoRest" then .ref C_NoRest else .none) mg := ⟨⟨C_NoRest, ⟨PySem.W.mg_of X G e_NoRest, rk_NoRest, rq_NoRest, rs_NoRest, tc_NoRest⟩, rfl⟩, ⟨C_NoRest, _, _, _, _, _, PySem.W.mg_of X G e_NoRest, rfl, exm_own rs_NoRest ic_NoRest tc_NoRest xs_NoRest, ⟨x1_NoRest, x2_NoRest, rs_NoRest, x4_NoRest, x5_NoRest, x6_NoRest, x7_NoRest, x8_NoRest⟩, ⟨kit_no n1_NoRest ic_NoYard tc_NoYard y1_NoRest, kit_no n2_NoRest ic_NoText tc_NoText y2_NoRest, kit_no n3_NoRest ic_NoTumble tc_NoTumble y3_NoRest, kit_no n4_NoRest ic_NotLasting tc_NotLasting y4_NoRest, kit_yes ic_SandError tc_SandError yS_NoRest, kit_val yV_NoRest⟩, PySem.W.mg_of X G e_NoYard, PySem.W.mg_of X G e_NoText, PySem.W.mg_of X G e_NoTumble, PySem.W.mg_of X G e_NotLasting, PySem.W.mg_of X G e_SandError⟩, ⟨C_NoRest, C_NoRest, PySem.W.mg_of X G e_NoRest, rfl, exm_sub hb_NoRest_NoRest ic_NoRest tc_NoRest hs_NoRest_NoRest⟩, PySem.W.mg_none_of X G z_ValueError, PySem.W.mg_none_of X G z_all, PySem.W.mg_none_of X G z_any, PySem.W.mg_none_of X G z_bool, PySem.W.mg_none_of X G z_enumerate, PySem.W.mg_none_of X G z_int, PySem.W.mg_none_of X G z_isinstance, PySem.W.mg_none_of X G z_len, PySem.W.mg_none_of X G z_list, PySem.W.mg_none_of X G z_max, PySem.W.mg_none_of X G z_min, PySem.W.mg_none_of X G z_range, PySem.W.mg_none_of X G z_sorted, PySem.W.mg_none_of X G z_sum, PySem.W.mg_none_of X G z_tuple, PySem.W.mg_none_of X G z_zip⟩
  refine law_end (x := "law") (st := s_law) (cl := (fun x => if x = "NoRest" then .ref C_NoRest else .none)) (g := Dn.runF 1 17 Dg.b_P_law) hfa (d_law.df X G) (fun f fd F s v => ?_) (fun base _ _ f fd F => ?_)
  · obtain ⟨oc, od, kV, doc, pm, an, cdv, ct, osl, rfl, lk, hcd⟩ := F.ex
    exact .of_eq rfl
  · have c__law_drawn : Cal l.prog w K mg base (fun x => if x = "NoRest" then .ref C_NoRest else .none) CX0 "_law_drawn" 1 2 Dg.L_drawn := ok__law_drawn (d__law_drawn.df X G) T
    have c__law_yard : Cal l.prog w K mg base (fun x => if x = "NoRest" then .ref C_NoRest else .none) CX0 "_law_yard" 2 3 Dg.L_yard := ok__law_yard (d__law_yard.df X G) T c__law_drawn
    have c__law_between : Cal l.prog w K mg base (fun x => if x = "NoRest" then .ref C_NoRest else .none) CX0 "_law_between" 1 3 Dg.L_between := ok__law_between (d__law_between.df X G) T 
    have c__law_sizes : Cal l.prog w K mg base (fun x => if x = "NoRest" then .ref C_NoRest else .none) CX0 "_law_sizes" 2 1 Dg.L_sizes := ok__law_sizes (d__law_sizes.df X G) T c__law_between
    have c_sizes : Cal l.prog w K mg base (fun x => if x = "NoRest" then .ref C_NoRest else .none) CX0 "sizes" 1 1 Dg.P_sizes := ok_sizes (d_sizes.df X G) T 
    have c_rests : Cal l.prog w K mg base (fun x => if x = "NoRest" then .ref C_NoRest else .none) CX0 "rests" 2 2 Dg.P_rests := ok_rests (d_rests.df X G) T c_sizes
    have c_between : Cal l.prog w K mg base (fun x => if x = "NoRest" then .ref C_NoRest else .none) CX0 "between" 1 3 Dg.P_between := ok_between (d_between.df X G) T 
    have c_burn : Cal l.prog w K mg base (fun x => if x = "NoRest" then .ref C_NoRest else .none) (L2N.CX l.prog w) "burn" 3 2 Dg.P_burn := ok_burn (d_burn.df X G) T c_rests c_between
    have c_is_lasting : Cal l.prog w K mg base (fun x => if x = "NoRest" then .ref C_NoRest else .none) (L2N.CX l.prog w) "is_lasting" 4 2 Dg.P_is_lasting := ok_is_lasting (d_is_lasting.df X G) T c_burn
    have c__law_told : Cal l.prog w K mg base (fun x => if x = "NoRest" then .ref C_NoRest else .none) CX0 "_law_told" 5 3 Dg.L_told := ok__law_told (d__law_told.df X G) T c_burn c_is_lasting
    have c__law_cell_at : Cal l.prog w K mg base (fun x => if x = "NoRest" then .ref C_NoRest else .none) CX0 "_law_cell_at" 1 2 Dg.L_cell_at := ok__law_cell_at (d__law_cell_at.df X G) T 
    have c__law_mixed : Cal l.prog w K mg base (fun x => if x = "NoRest" then .ref C_NoRest else .none) CX0 "_law_mixed" 2 2 Dg.L_mixed := ok__law_mixed (d__law_mixed.df X G) T c__law_cell_at
    exact fk_law F T c__law_yard c__law_mixed c__law_sizes c__law_drawn c__law_told c__law_between
end Wk
open PySem PySem.W PyProof.Rows
set_option maxHeartbeats 0 in
theorem PySem.Challenge.cw_sandyard_k20_burns_holds : PySem.Challenge.rw_sandyard_k20_burns.Holds := by
  w_on; o_law; k_head; (case hw => w_witness2)
  k_fill
  refine L2.walk_of (l := PySem.Challenge.rw_sandyard_k20_burns) (n := 63) (k := 6) (x := "_law_script") (CX := fun _ => L2.CX0) (sp := fun w => Dw.spL _ (Dn.runF 1 17 Dg.b_P_law)) rfl (by decide) rfl ⟨rfl, by decide, by decide⟩ (fun w h Y => PySem.W.kIn_of Y) ?F (fun _ _ a ns hl _ hS => Dw.law_sp hS (Wk.law_true ns hl)) (fun _ _ _ _ _ h => h)
  case F =>
    intro w mg fa h KX G hmg
    refine' Wk.all_mk KX G hmg ?a0 ?l0 ?c0 ?k0 ?a1 ?l1 ?c1 ?k1 ?a2 ?l2 ?c2 ?k2 ?a3 ?l3 ?c3 ?k3 ?a4 ?l4 ?c4 ?k4 ?a5 ?l5 ?c5 ?k5 ?a6 ?l6 ?c6 ?k6 ?a7 ?l7 ?c7 ?k7 ?a8 ?l8 ?c8 ?k8 ?a9 ?l9 ?c9 ?k9 ?a10 ?l10 ?c10 ?k10 ?a11 ?l11 ?c11 ?k11 ?a12 ?l12 ?c12 ?k12 ?z_ValueError ?z_all ?z_any ?z_bool ?z_enumerate ?z_int ?z_isinstance ?z_len ?z_list ?z_max ?z_min ?z_range ?z_sorted ?z_sum ?z_tuple ?z_zip ?e_NoRest ?ic_NoRest ?tc_NoRest ?e_NoText ?ic_NoText ?tc_NoText ?e_NoTumble ?ic_NoTumble ?tc_NoTumble ?e_NoYard ?ic_NoYard ?tc_NoYard ?e_NotLasting ?ic_NotLasting ?tc_NotLasting ?e_SandError ?ic_SandError ?tc_SandError ?rk_NoRest ?rq_NoRest ?rs_NoRest ?xs_NoRest ?x1_NoRest ?x2_NoRest ?x4_NoRest ?x5_NoRest ?x6_NoRest ?x7_NoRest ?x8_NoRest ?n1_NoRest ?y1_NoRest ?n2_NoRest ?y2_NoRest ?n3_NoRest ?y3_NoRest ?n4_NoRest ?y4_NoRest ?yS_NoRest ?yV_NoRest ?hb_NoRest_NoRest ?hs_NoRest_NoRest
    (case a0 => k_is)
    (case l0 => k_is)
    (case c0 => k_is)
    (case k0 => k_is)
    (case a1 => k_is)
    (case l1 => k_is)
    (case c1 => k_is)
    (case k1 => k_is)
    (case a2 => k_is)
    (case l2 => k_is)
    (case c2 => k_is)
    (case k2 => k_is)
    (case a3 => k_is)
    (case l3 => k_is)
    (case c3 => k_is)
    (case k3 => k_is)
    (case a4 => k_is)
    (case l4 => k_is)
    (case c4 => k_is)
    (case k4 => k_is)
    (case a5 => k_is)
    (case l5 => k_is)
    (case c5 => k_is)
    (case k5 => k_is)
    (case a6 => k_is)
    (case l6 => k_is)
    (case c6 => k_is)
    (case k6 => k_is)
    (case a7 => k_is)
    (case l7 => k_is)
    (case c7 => k_is)
    (case k7 => k_is)
    (case a8 => k_is)
    (case l8 => k_is)
    (case c8 => k_is)
    (case k8 => k_is)
    (case a9 => k_is)
    (case l9 => k_is)
    (case c9 => k_is)
    (case k9 => k_is)
    (case a10 => k_is)
    (case l10 => k_is)
    (case c10 => k_is)
    (case k10 => k_is)
    (case a11 => k_is)
    (case l11 => k_is)
    (case c11 => k_is)
    (case k11 => k_is)
    (case a12 => k_is)
    (case l12 => k_is)
    (case c12 => k_is)
    (case k12 => k_is)
    (case z_ValueError => k_is)
    (case z_all => k_is)
    (case z_any => k_is)
    (case z_bool => k_is)
    (case z_enumerate => k_is)
    (case z_int => k_is)
    (case z_isinstance => k_is)
    (case z_len => k_is)
    (case z_list => k_is)
    (case z_max => k_is)
    (case z_min => k_is)
    (case z_range => k_is)
    (case z_sorted => k_is)
    (case z_sum => k_is)
    (case z_tuple => k_is)
    (case z_zip => k_is)
    (case e_NoRest => k_is)
    (case ic_NoRest => k_is)
    (case tc_NoRest => k_is)
    (case e_NoText => k_is)
    (case ic_NoText => k_is)
    (case tc_NoText => k_is)
    (case e_NoTumble => k_is)
    (case ic_NoTumble => k_is)
    (case tc_NoTumble => k_is)
    (case e_NoYard => k_is)
    (case ic_NoYard => k_is)
    (case tc_NoYard => k_is)
    (case e_NotLasting => k_is)
    (case ic_NotLasting => k_is)
    (case tc_NotLasting => k_is)
    (case e_SandError => k_is)
    (case ic_SandError => k_is)
    (case tc_SandError => k_is)
    (case rk_NoRest => k_is)
    (case rq_NoRest => k_exc)
    (case rs_NoRest => k_is)
    (case xs_NoRest => first | rfl | k_is)
    (case x1_NoRest => k_is)
    (case x2_NoRest => k_is)
    (case x4_NoRest => k_is)
    (case x5_NoRest => k_is)
    (case x6_NoRest => k_is)
    (case x7_NoRest => k_is)
    (case x8_NoRest => k_is)
    (case n1_NoRest => first | rfl | k_is)
    (case y1_NoRest => k_is)
    (case n2_NoRest => first | rfl | k_is)
    (case y2_NoRest => k_is)
    (case n3_NoRest => first | rfl | k_is)
    (case y3_NoRest => k_is)
    (case n4_NoRest => first | rfl | k_is)
    (case y4_NoRest => k_is)
    (case yS_NoRest => k_is)
    (case yV_NoRest => k_is)
    (case hb_NoRest_NoRest => k_is)
    (case hs_NoRest_NoRest => first | rfl | k_is)

