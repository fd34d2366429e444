import PyProof.Rows.All
import Wide.All
import OpenK.AllK
import Wide.FinOn
import HandS.ForMost
import HandS.Conv
import HandS.TupAny
import HandS.TupMul
import HandS.Style
import HandS.Zip
import HandS.Wide
import HandS.IsInst
import KE.DataEq
import KE.DataCmp
import KE.DataMinMax
import KE.DataAny
import KE.DataFind
import KE.DataIsa
import KE.SortData
import KE.DatumOrd
import KE.KDictKeyed
import HandS.Evl
import KE.KTupSum
import PyProof.SeqIndex
import HandS.More
import KE.SortLaws
import PySem.Challenge.RW_bondslaid_k04_whole_what_bears_what
set_option Elab.async false
set_option linter.all false
set_option maxRecDepth 100000
/-! PV: a small language of data, its interpreter over a monad. -/
namespace PV
open PySem

abbrev D := PyData

/-- a slot of a def: not set, a value that others may hold, a list or dict that this def alone holds, a value that the core never reads -/
inductive Slot where
  | no
  | sh (d : D)
  | ow (d : D)
  | fx (v : L2.V)
abbrev Env := List Slot
def Slot.val : Slot → Option D
  | .no => none
  | .sh d => some d
  | .ow d => some d
  | .fx _ => none
def Slot.frz : Slot → Slot
  | .ow d => .sh d
  | x => x
def Slot.own? : Slot → Option D
  | .ow d => some d
  | _ => none
def getV (ρ : Env) (i : Nat) : Option D := (ρ[i]?).bind Slot.val
def getO (ρ : Env) (i : Nat) : Option D := (ρ[i]?).bind Slot.own?
/-- the names vs frozen -/
def frz (vs : List Nat) (ρ : Env) : Env := ρ.mapIdx fun i s => if vs.contains i then s.frz else s
/-- the names vs forgotten -/
def wip (vs : List Nat) (ρ : Env) : Env := ρ.mapIdx fun i s => if vs.contains i then .no else s
/-- what stood in ρ0 is kept -/
def msk (ρ0 ρ : Env) : Env := ρ.mapIdx fun i s => match ρ0[i]? with
  | some .no => .no
  | none => .no
  | _ => s

inductive Fl where
  | nx (ρ : Env)
  | rt (d : D)
  | bk (ρ : Env)

inductive Op2 where
  | add | sub | mul | fdiv | mod | pow
inductive Cm where
  | eq | ne | lt | le | gt | ge | is_ | isnot | in_ | notin
inductive Bi where
  | len | abs | sum | any | all | tuple | list | sorted | min | max | int | str | dict | sset | lset
inductive Ty where
  | int | bool | str | tuple | list | dict

mutual
inductive Pat where
  | nm (i : Nat)
  | tp (ps : Pats)
inductive Pats where
  | nil
  | cons (p : Pat) (ps : Pats)
end

mutual
inductive E where
  | none
  | bl (b : Bool)
  | int (i : Int)
  | str (s : Str)
  | var (i : Nat)
  | gl (n : Nat)
  | bin (o : Op2) (a b : E)
  | neg (a : E)
  | not (a : E)
  | and (a b : E)
  | or (a b : E)
  | cmp (c : Cm) (a b : E)
  | chain (c1 c2 : Cm) (a b c : E)
  | ife (t a b : E)
  | tup (es : Es)
  | lst (es : Es)
  | dct0
  | ix (a i : E)
  | sl (a lo hi : E)
  | rev (a : E)
  | yes
  | comp (own : List Nat) (p : Pat) (s : Src) (t elt : E)
  | comp2 (own own1 : List Nat) (p : Pat) (s : Src) (t : E) (p1 : Pat) (s1 : Src) (t1 elt : E)
  | call (f : Nat) (es : Es)
  | callw (f : Nat) (es : Es)
  | bi (b : Bi) (a : E)
  | bis (b : Bi) (s : Src)
  | mx (a b : E)
  | mn (a b : E)
  | isin (a : E) (t : Ty)
  | count (a x : E)
  | index (a x : E)
  | get1 (a k : E)
  | get2 (a k d : E)
  | bad
inductive Es where
  | nil
  | cons (e : E) (es : Es)
inductive Src where
  | val (e : E)
  | r1 (a : E)
  | r2 (a b : E)
  | r3 (a b c : E)
  | zip (a b : E)
end

mutual
inductive S where
  | pass
  | asg (i : Nat) (e : E)
  | asgp (is : List Nat) (es : Es)
  | asgt (p : Pat) (e : E)
  | aug (i : Nat) (o : Op2) (e : E)
  | app (i : Nat) (e : E)
  | ext (i : Nat) (e : E)
  | ins0 (i : Nat) (e : E)
  | seti (i : Nat) (k e : E)
  | augi (i : Nat) (k : E) (o : Op2) (e : E)
  | upd (i : Nat) (e : E)
  | popt (p : Pat) (i : Nat)
  | ite (t : E) (a b : Ss)
  | whl (t : E) (b : Ss)
  | for_ (p : Pat) (s : Src) (b : Ss)
  | ret (e : E)
  | brk
  | bad
inductive Ss where
  | nil
  | cons (s : S) (r : Ss)
end

def Es.len : Es → Nat
  | .nil => 0
  | .cons _ es => es.len + 1
mutual
def Pat.ns : Pat → List Nat
  | .nm i => [i]
  | .tp ps => ps.ns
def Pats.ns : Pats → List Nat
  | .nil => []
  | .cons p ps => p.ns ++ ps.ns
end

/-! ### what is read as a value of its own (frozen ahead) -/
mutual
/-- b: only looked at -/
def esc (b : Bool) : E → List Nat
  | .var i => if b then [] else [i]
  | .bin _ x y => esc true x ++ esc true y
  | .neg x => esc true x
  | .not x => esc true x
  | .and x y => esc false x ++ esc false y
  | .or x y => esc false x ++ esc false y
  | .cmp _ x y => esc true x ++ esc true y
  | .chain _ _ x y z => esc true x ++ (esc true y ++ esc true z)
  | .ife t x y => esc true t ++ (esc false x ++ esc false y)
  | .tup es => escs es
  | .lst es => escs es
  | .ix x i => esc true x ++ esc true i
  | .sl x lo hi => esc true x ++ (esc true lo ++ esc true hi)
  | .rev x => esc true x
  | .comp _ _ s t elt => escS s ++ (esc true t ++ esc false elt)
  | .comp2 _ _ _ s t _ s1 t1 elt => escS s ++ (esc true t ++ (escS s1 ++ (esc true t1 ++ esc false elt)))
  | .call _ es => escs es
  | .callw _ es => escs es
  | .bi _ x => esc true x
  | .bis _ s => escS s
  | .mx x y => esc true x ++ esc true y
  | .mn x y => esc true x ++ esc true y
  | .isin x _ => esc true x
  | .count x y => esc true x ++ esc true y
  | .index x y => esc true x ++ esc true y
  | .get1 x k => esc true x ++ esc true k
  | .get2 x k d => esc true x ++ (esc true k ++ esc false d)
  | .none => []
  | .bl _ => []
  | .int _ => []
  | .str _ => []
  | .gl _ => []
  | .dct0 => []
  | .yes => []
  | .bad => []
def escs : Es → List Nat
  | .nil => []
  | .cons e es => esc false e ++ escs es
def escS : Src → List Nat
  | .val e => esc true e
  | .r1 x => esc true x
  | .r2 x y => esc true x ++ esc true y
  | .r3 x y z => esc true x ++ (esc true y ++ esc true z)
  | .zip x y => esc true x ++ esc true y
end
/-- the source of a loop: frozen while it runs -/
def escF : Src → List Nat
  | .val e => esc false e
  | .r1 x => esc true x
  | .r2 x y => esc true x ++ esc true y
  | .r3 x y z => esc true x ++ (esc true y ++ esc true z)
  | .zip x y => esc false x ++ esc false y
end PV

/-! PV: operations on data, the interpreter. -/
namespace PV
open PySem

def LINE : Nat := 16777216
def cut {α : Type} (xs : List α) (lo hi : Option Int) : List α :=
  (xs.drop (HT.sIx xs.length 0 lo)).take (HT.sIx xs.length xs.length hi - HT.sIx xs.length 0 lo)
def small64 (i : Int) : Bool := decide (i.natAbs < 18446744073709551616)

def dBin : Op2 → D → D → Option D
  | .add, .int a, .int b => some (.int (a + b))
  | .add, .tuple a, .tuple b => if a.length + b.length ≤ LINE then some (.tuple (a ++ b)) else none
  | .add, .list a, .list b => if a.length + b.length ≤ LINE then some (.list (a ++ b)) else none
  | .add, .str a, .str b => if a.length + b.length ≤ LINE then some (.str (a ++ b)) else none
  | .sub, .int a, .int b => some (.int (a - b))
  | .mul, .int a, .int b => if small64 a || small64 b then some (.int (a * b)) else none
  | .mul, .tuple a, .int n => if n = 1 then some (.tuple a) else if a ≠ [] ∧ 2 ≤ n ∧ n ≤ 1000 ∧ a.length ≤ 1000 then some (.tuple (List.replicate n.toNat a).flatten) else none
  | .mul, .list a, .int n => if a.length * n.toNat ≤ LINE ∧ n.natAbs < 4611686018427387904 then some (.list (List.replicate n.toNat a).flatten) else none
  | .fdiv, .int a, .int b => if b ≠ 0 ∧ b.natAbs < 1606938044258990275541962092341162602522202993782792835301376 then some (.int (a.fdiv b)) else none
  | .mod, .int a, .int b => if b ≠ 0 then some (.int (a.fmod b)) else none
  | .pow, .int a, .int b => if 0 ≤ b ∧ b ≤ 1000000 ∧ a.natAbs < 18446744073709551616 then some (.int (a ^ b.toNat)) else none
  | _, _, _ => none

/-- data without dicts, at most n deep -/
def shal : Nat → D → Bool
  | _, .none => true
  | _, .bool _ => true
  | _, .int _ => true
  | _, .str _ => true
  | n + 1, .list xs => xs.all (shal n)
  | n + 1, .tuple xs => xs.all (shal n)
  | _, _ => false
def sh (d : D) : Bool := shal 20 d
def shs (xs : List D) : Bool := xs.all (shal 20)
def isN : D → Bool
  | .none => true
  | _ => false
def isB (b : Bool) : D → Bool
  | .bool c => c == b
  | _ => false
def cmpOk (a b : D) : Bool := sh a && (W.alike a b && !isN a)
def dlt (a b : D) : Option Bool := if cmpOk a b then some (W.dataLt a b) else none
/-- the place of a key -/
def keyAt (k : D) : List (D × D) → Option D
  | [] => none
  | (a, v) :: r => if PyData.eqv a k then some v else keyAt k r
def keyPut (k v : D) : List (D × D) → List (D × D)
  | [] => [(k, v)]
  | (a, u) :: r => if PyData.eqv a k then (a, v) :: r else (a, u) :: keyPut k v r
/-- a key: a whole number, a text, or a tuple of keys -/
def scalK : D → Bool
  | .int _ => true
  | .str _ => true
  | _ => false
mutual
def tupK : D → Bool
  | .int _ => true
  | .str _ => true
  | .bool _ => true
  | .none => true
  | .tuple xs => tupKs xs
  | _ => false
def tupKs : List D → Bool
  | [] => true
  | x :: xs => tupK x && tupKs xs
end
def isTup : D → Bool
  | .tuple _ => true
  | _ => false

def dIn (x : D) : D → Option Bool
  | .list xs => if sh x && shs xs then some (xs.any fun y => PyData.eqv y x) else none
  | .tuple xs => if sh x && shs xs then some (xs.any fun y => PyData.eqv y x) else none
  | .dict kvs => some (keyAt x kvs).isSome
  | _ => none
def dCmp : Cm → D → D → Option Bool
  | .eq, a, b => if sh a && sh b then some (PyData.eqv a b) else none
  | .ne, a, b => if sh a && sh b then some (!PyData.eqv a b) else none
  | .lt, a, b => dlt a b
  | .gt, a, b => (if cmpOk a b then some (W.dataLt b a) else none)
  | .le, a, b => (if cmpOk a b then some (!W.dataLt b a) else none)
  | .ge, a, b => (if cmpOk a b then some (!W.dataLt a b) else none)
  | .is_, a, .none => some (isN a)
  | .is_, a, .bool b => some (isB b a)
  | .isnot, a, .none => some (!isN a)
  | .isnot, a, .bool b => some (!isB b a)
  | .in_, a, b => dIn a b
  | .notin, a, b => (dIn a b).map (!·)
  | _, _, _ => none

def ints? : List D → Option (List Int)
  | [] => some []
  | .int i :: r => (ints? r).map (i :: ·)
  | _ :: _ => none
def bools? : List D → Option (List Bool)
  | [] => some []
  | .bool i :: r => (bools? r).map (i :: ·)
  | _ :: _ => none
def items : D → Option (List D)
  | .list xs => some xs
  | .tuple xs => some xs
  | _ => none
def allAlike (xs : List D) : Bool := xs.all fun a => xs.all fun b => W.alike a b
def tupNE : D → Bool
  | .tuple (_ :: _) => true
  | _ => false
def sortable (xs : List D) : Bool := xs.all tupNE || xs.all fun d => !isN d && !isTup d
def dSort (xs : List D) : Option (List D) :=
  if xs.length ≤ 1 && (shs xs && xs.all fun d => !isN d) then some xs else if shs xs && (allAlike xs && sortable xs) then some (xs.mergeSort (W.dataLe false id)) else none
/-- each once, the first of equal ones -/
def dedup (xs : List D) : List D := xs.foldl (fun acc x => if acc.any (fun y => PyData.eqv y x) then acc else acc ++ [x]) []
def dMin : List D → Option D
  | [] => none
  | x :: xs => if shs (x :: xs) && (allAlike (x :: xs) && (x :: xs).all (fun d => !isN d)) then some (W.minD x xs) else none
def dMax : List D → Option D
  | [] => none
  | x :: xs => if shs (x :: xs) && (allAlike (x :: xs) && (x :: xs).all (fun d => !isN d)) then some (W.maxD x xs) else none
def signs (s : Str) : List D := s.cps.toList.map fun c => .str ⟨#[c]⟩

/-- dict(pairs), onto what stands -/
def dPairs : List D → List (D × D) → Option (List (D × D))
  | [], acc => some acc
  | .tuple [k, v] :: r, acc => if tupK k then dPairs r (keyPut k v acc) else none
  | _ :: _, _ => none
def dBi : Bi → D → Option D
  | .len, .list xs => some (.int xs.length)
  | .len, .tuple xs => some (.int xs.length)
  | .len, .str s => if s.length ≤ LINE then some (.int s.length) else none
  | .len, .dict kvs => some (.int kvs.length)
  | .abs, .int i => some (.int (if i < 0 then -i else i))
  | .sum, d => (items d).bind fun xs => (ints? xs).map fun ns => .int ns.sum
  | .any, .list xs => (bools? xs).map fun bs => .bool (bs.any id)
  | .all, .list xs => (bools? xs).map fun bs => .bool (bs.all id)
  | .tuple, d => (items d).map .tuple
  | .list, .dict kvs => some (.list (kvs.map (·.1)))
  | .list, d => (items d).map .list
  | .sorted, .list xs => (dSort xs).map .list
  | .min, d => (items d).bind dMin
  | .max, d => (items d).bind dMax
  | .int, .int i => some (.int i)
  | .int, .bool b => some (.int (if b then 1 else 0))
  | .str, .int i => if i.natAbs.log2 < 1920 then some (.str (toString i)) else none
  | .sset, d => (items d).bind fun xs => if tupKs xs && allAlike xs then (dSort (dedup xs)).map .list else none
  | .lset, d => (items d).bind fun xs => if tupKs xs then some (.int (dedup xs).length) else none
  | .dict, .dict kvs => some (.dict kvs)
  | .dict, .list ps => (dPairs ps []).map .dict
  | _, _ => none

def dIx : D → D → Option D
  | .list xs, .int i => L2.atI xs i
  | .tuple xs, .int i => L2.atI xs i
  | .str s, .int i => if s.length ≤ LINE then (L2.atI s.cps.toList i).map fun c => .str ⟨#[c]⟩ else none
  | .dict kvs, k => keyAt k kvs
  | _, _ => none
def bound? : E → D → Option (Option Int)
  | .none, _ => some none
  | _, .int i => some (some i)
  | _, _ => none
def dSl : D → Option Int → Option Int → Option D
  | .list xs, lo, hi => some (.list (cut xs lo hi))
  | .tuple xs, lo, hi => some (.tuple (cut xs lo hi))
  | _, _, _ => none
def dRev : D → Option D
  | .list xs => some (.list xs.reverse)
  | .tuple xs => some (.tuple xs.reverse)
  | _ => none
def dMx : D → D → Option D
  | .int i, .int j => some (.int (if j > i then j else i))
  | _, _ => none
def dMn : D → D → Option D
  | .int i, .int j => some (.int (if j < i then j else i))
  | _, _ => none
def dIs : D → Ty → Bool
  | .int _, .int => true
  | .bool _, .int => true
  | .bool _, .bool => true
  | .str _, .str => true
  | .tuple _, .tuple => true
  | .list _, .list => true
  | .dict _, .dict => true
  | _, _ => false
def dCount (x : D) (d : D) : Option D := (items d).bind fun xs => if sh x && shs xs then some (.int (xs.countP fun y => PyData.eqv y x)) else none
def dIndex (x : D) (d : D) : Option D := (items d).bind fun xs => if sh x && shs xs then (xs.findIdx? fun y => PyData.eqv y x).map fun n => .int n else none
def dGet (k x : D) : D → Option D
  | .dict kvs => some ((keyAt k kvs).getD x)
  | _ => none
def rng (a b : Int) : List D := (List.range (b - a).toNat).map fun (i : Nat) => .int (a + i)
def okR (a b : Int) : Bool := decide (a.natAbs < 4611686018427387904 ∧ b.natAbs < 4611686018427387904 ∧ (b - a).toNat ≤ LINE)
/-- range(a, b, c), c below nought: -1 alone -/
def rngD (a b : Int) : List D := (List.range (a - b).toNat).map fun (i : Nat) => .int (a - i)
def isMut : D → Bool
  | .list _ => true
  | .dict _ => true
  | _ => false

def E.fresh : E → Bool
  | .lst _ => true
  | .dct0 => true
  | .comp .. => true
  | .comp2 .. => true
  | .bi .list _ => true
  | .bi .sorted _ => true
  | .bi .dict _ => true
  | .bi .sset _ => true
  | .bis .list _ => true
  | .bin .. => true
  | .sl .. => true
  | .rev .. => true
  | _ => false
def slotOf (e : E) (d : D) : Slot := if e.fresh && isMut d then .ow d else .sh d

mutual
def bindP : Pat → D → Env → Option Env
  | .nm i, d, ρ => some (ρ.set i (.sh d))
  | .tp ps, .tuple ds, ρ => bindPs ps ds ρ
  | .tp _, _, _ => none
def bindPs : Pats → List D → Env → Option Env
  | .nil, [], ρ => some ρ
  | .cons p ps, d :: ds, ρ => (bindP p d ρ).bind fun ρ => bindPs ps ds ρ
  | _, _, _ => none
end

/-! ### the interpreter over a monad -/
structure Mo (m : Type → Type) where
  pure : {α : Type} → α → m α
  bind : {α β : Type} → m α → (α → m β) → m β
  fail : {α : Type} → m α
  whl : (Env → m (Env ⊕ Fl)) → Env → m Fl

section
variable {m : Type → Type} (M : Mo m)
def Mo.lift {α : Type} : Option α → m α
  | some a => M.pure a
  | none => M.fail
def bool? : D → Option Bool
  | .bool b => some b
  | _ => none
def int? : D → Option Int
  | .int i => some i
  | _ => none
def compL (g : D → m (Option D)) : List D → m (List D)
  | [] => M.pure []
  | x :: xs => M.bind (g x) fun o => M.bind (compL g xs) fun ys => M.pure (match o with
    | some y => y :: ys
    | none => ys)
def compLL (src : D → m (Option (Env × List D))) (g : Env → D → m (Option D)) : List D → List D → m (List D)
  | acc, [] => M.pure acc
  | acc, x :: xs => M.bind (src x) fun
    | none => compLL src g acc xs
    | some (ρ, zs) => if acc.length + zs.length ≤ LINE then M.bind (compL M (g ρ) zs) fun ys => compLL src g (acc ++ ys) xs else M.fail
def forL (g : D → Env → m Fl) (ρ0 : Env) : List D → Env → m Fl
  | [], ρ => M.pure (.nx ρ)
  | x :: xs, ρ => M.bind (g x ρ) fun
    | .nx ρ' => forL g ρ0 xs (msk ρ0 ρ')
    | .rt d => M.pure (.rt d)
    | .bk ρ' => M.pure (.nx (msk ρ0 ρ'))
def whlStep (vs : List Nat) (c : Env → m Bool) (b : Env → m Fl) (ρ0 ρ : Env) : m (Env ⊕ Fl) :=
  M.bind (c ρ) fun t => if t = true then M.bind (b ρ) fun
    | .nx ρ' => M.pure (.inl (frz vs (msk ρ0 ρ')))
    | .rt d => M.pure (.inr (.rt d))
    | .bk ρ' => M.pure (.inr (.nx (msk ρ0 ρ')))
  else M.pure (.inr (.nx ρ))
def iter? : D → Option (List D)
  | .list xs => some xs
  | .tuple xs => some xs
  | .dict kvs => some (kvs.map (·.1))
  | .str s => some (signs s)
  | _ => none
def zip2 (xs ys : List D) : List D := (xs.zip ys).map fun p => .tuple [p.1, p.2]

def zipD : D → D → Option (List D)
  | .list xs, .list ys => some (zip2 xs ys)
  | .tuple xs, .tuple ys => some (zip2 xs ys)
  | .list xs, .tuple ys => some (zip2 xs ys)
  | _, _ => none
variable (C : Nat → Option D) (F G : Nat → List D → m D)
mutual
def ev : E → Env → m D
  | .none, _ => M.pure .none
  | .bl b, _ => M.pure (.bool b)
  | .int i, _ => M.pure (.int i)
  | .str s, _ => M.pure (.str s)
  | .var i, ρ => M.lift (getV ρ i)
  | .gl n, _ => M.lift (C n)
  | .bin o a b, ρ => M.bind (ev a ρ) fun x => M.bind (ev b ρ) fun y => M.lift (dBin o x y)
  | .neg a, ρ => M.bind (ev a ρ) fun x => M.lift ((int? x).map fun i => .int (-i))
  | .not a, ρ => M.bind (ev a ρ) fun x => M.lift ((bool? x).map fun b => .bool (!b))
  | .and a b, ρ => M.bind (ev a ρ) fun x => M.bind (M.lift (bool? x)) fun t => if t = true then ev b ρ else M.pure (.bool false)
  | .or a b, ρ => M.bind (ev a ρ) fun x => M.bind (M.lift (bool? x)) fun t => if t = true then M.pure (.bool true) else ev b ρ
  | .cmp c a b, ρ => M.bind (ev a ρ) fun x => M.bind (ev b ρ) fun y => M.lift ((dCmp c x y).map .bool)
  | .chain c c' a b d, ρ => M.bind (ev a ρ) fun x => M.bind (ev b ρ) fun y => M.bind (M.lift (dCmp c x y)) fun t =>
      if t = true then M.bind (ev d ρ) fun z => M.lift ((dCmp c' y z).map .bool) else M.pure (.bool false)
  | .ife t a b, ρ => M.bind (ev t ρ) fun x => M.bind (M.lift (bool? x)) fun t => if t = true then ev a ρ else ev b ρ
  | .tup es, ρ => M.bind (evs es ρ) fun ds => M.pure (.tuple ds)
  | .lst es, ρ => M.bind (evs es ρ) fun ds => M.pure (.list ds)
  | .dct0, _ => M.pure (.dict [])
  | .ix a i, ρ => M.bind (ev a ρ) fun x => M.bind (ev i ρ) fun y => M.lift (dIx x y)
  | .sl a lo hi, ρ => M.bind (ev a ρ) fun x => M.bind (ev lo ρ) fun y => M.bind (M.lift (bound? lo y)) fun l => M.bind (ev hi ρ) fun z => M.bind (M.lift (bound? hi z)) fun h => M.lift (dSl x l h)
  | .rev a, ρ => M.bind (ev a ρ) fun x => M.lift (dRev x)
  | .yes, _ => M.pure (.bool true)
  | .comp own p s t elt, ρ => M.bind (evS s ρ) fun xs => M.bind (compL M (fun d => M.bind (M.lift (bindP p d (wip own ρ))) fun ρ1 =>
      M.bind (ev t ρ1) fun x => M.bind (M.lift (bool? x)) fun b => if b = true then M.bind (ev elt ρ1) fun y => M.pure (some y) else M.pure none) xs) fun ys => M.pure (.list ys)
  | .comp2 own own1 p s t p1 s1 t1 elt, ρ => M.bind (evS s ρ) fun xs => M.bind (compLL M (fun d => M.bind (M.lift (bindP p d (wip own ρ))) fun ρ1 =>
      M.bind (ev t ρ1) fun x => M.bind (M.lift (bool? x)) fun b => if b = true then M.bind (evS s1 ρ1) fun zs => M.pure (some (wip own1 ρ1, zs)) else M.pure none)
      (fun ρ1 d => M.bind (M.lift (bindP p1 d ρ1)) fun ρ2 => M.bind (ev t1 ρ2) fun x => M.bind (M.lift (bool? x)) fun b => if b = true then M.bind (ev elt ρ2) fun y => M.pure (some y) else M.pure none) [] xs) fun ys => M.pure (.list ys)
  | .call f es, ρ => M.bind (evs es ρ) fun ds => F f ds
  | .callw f es, ρ => M.bind (evs es ρ) fun ds => G f ds
  | .bi b a, ρ => M.bind (ev a ρ) fun x => M.lift (dBi b x)
  | .bis b s, ρ => M.bind (evS s ρ) fun xs => M.lift (match b with
      | .tuple => some (.tuple xs)
      | .list => some (.list xs)
      | _ => none)
  | .mx a b, ρ => M.bind (ev a ρ) fun x => M.bind (ev b ρ) fun y => M.lift (dMx x y)
  | .mn a b, ρ => M.bind (ev a ρ) fun x => M.bind (ev b ρ) fun y => M.lift (dMn x y)
  | .isin a t, ρ => M.bind (ev a ρ) fun x => M.pure (.bool (dIs x t))
  | .count a x, ρ => M.bind (ev a ρ) fun d => M.bind (ev x ρ) fun y => M.lift (dCount y d)
  | .index a x, ρ => M.bind (ev a ρ) fun d => M.bind (ev x ρ) fun y => M.lift (dIndex y d)
  | .get1 a k, ρ => M.bind (ev a ρ) fun d => M.bind (ev k ρ) fun y => M.lift (dGet y .none d)
  | .get2 a k x, ρ => M.bind (ev a ρ) fun d => M.bind (ev k ρ) fun y => M.bind (ev x ρ) fun z => M.lift (dGet y z d)
  | .bad, _ => M.fail
def evs : Es → Env → m (List D)
  | .nil, _ => M.pure []
  | .cons e es, ρ => M.bind (ev e ρ) fun d => M.bind (evs es ρ) fun ds => M.pure (d :: ds)
def evS : Src → Env → m (List D)
  | .val e, ρ => M.bind (ev e ρ) fun d => M.lift (items d)
  | .r1 a, ρ => M.bind (ev a ρ) fun x => M.bind (M.lift (int? x)) fun i => if okR 0 i then M.pure (rng 0 i) else M.fail
  | .r2 a b, ρ => M.bind (ev a ρ) fun x => M.bind (M.lift (int? x)) fun i => M.bind (ev b ρ) fun y => M.bind (M.lift (int? y)) fun j => if okR i j then M.pure (rng i j) else M.fail
  | .r3 a b c, ρ => M.bind (ev a ρ) fun x => M.bind (M.lift (int? x)) fun i => M.bind (ev b ρ) fun y => M.bind (M.lift (int? y)) fun j => M.bind (ev c ρ) fun z => M.bind (M.lift (int? z)) fun k =>
      if okR j i && k == -1 then M.pure (rngD i j) else M.fail
  | .zip a b, ρ => M.bind (ev a ρ) fun x => M.bind (ev b ρ) fun y => M.lift (zipD x y)
end

/-- slots set from the left -/
def setAll : List Nat → Es → List D → Env → Option Env
  | [], .nil, [], ρ => some ρ
  | i :: is, .cons e es, d :: ds, ρ => setAll is es ds (ρ.set i (slotOf e d))
  | _, _, _, _ => none
def dApp (d : D) : D → Option D
  | .list xs => if xs.length < LINE then some (.list (xs ++ [d])) else none
  | _ => none
def dExt (d : D) : D → Option D
  | .list xs => match d with
    | .list ys => if xs.length + ys.length ≤ LINE then some (.list (xs ++ ys)) else none
    | _ => none
  | _ => none
def dIns0 (d : D) : D → Option D
  | .list xs => if xs.length < LINE then some (.list (d :: xs)) else none
  | _ => none
def dSet (k d : D) : D → Option D
  | .list xs => match k with
    | .int i => (L2.ixN xs.length i).map fun j => .list (xs.set j d)
    | _ => none
  | .dict kvs => if tupK k && decide (kvs.length < LINE) then some (.dict (keyPut k d kvs)) else none
  | _ => none
def dUpd (d : D) : D → Option D
  | .dict kvs => match d with
    | .dict more => if kvs.length + more.length ≤ LINE then some (.dict (more.foldl (fun acc p => keyPut p.1 p.2 acc) kvs)) else none
    | _ => none
  | _ => none
def dPop : D → Option (D × D)
  | .list xs => match xs[xs.length - 1]? with
    | some y => some (y, .list xs.dropLast)
    | none => none
  | _ => none
mutual
def ex : S → Env → m Fl
  | .pass, ρ => M.pure (.nx ρ)
  | .asg i e, ρ => M.bind (ev M C F G e (frz (esc false e) ρ)) fun d => M.pure (.nx ((frz (esc false e) ρ).set i (slotOf e d)))
  | .asgp is es, ρ => M.bind (evs M C F G es (frz (escs es) ρ)) fun ds => M.bind (M.lift (setAll is es ds (frz (escs es) ρ))) fun ρ' => M.pure (.nx ρ')
  | .asgt p e, ρ => M.bind (ev M C F G e (frz (esc false e) ρ)) fun d => M.bind (M.lift (bindP p d (frz (esc false e) ρ))) fun ρ' => M.pure (.nx ρ')
  | .aug i o e, ρ => M.bind (M.lift (getV ρ i)) fun x => M.bind (ev M C F G e (frz (esc false e) ρ)) fun y => M.bind (M.lift (int? x)) fun a => M.bind (M.lift (int? y)) fun b =>
      M.bind (M.lift (dBin o (.int a) (.int b))) fun z => M.pure (.nx ((frz (esc false e) ρ).set i (.sh z)))
  | .app i e, ρ => M.bind (M.lift (getO (frz (esc false e) ρ) i)) fun x => M.bind (ev M C F G e (frz (esc false e) ρ)) fun d => M.bind (M.lift (dApp d x)) fun y => M.pure (.nx ((frz (esc false e) ρ).set i (.ow y)))
  | .ext i e, ρ => M.bind (M.lift (getO (frz (esc false e) ρ) i)) fun x => M.bind (ev M C F G e (frz (esc false e) ρ)) fun d => M.bind (M.lift (dExt d x)) fun y => M.pure (.nx ((frz (esc false e) ρ).set i (.ow y)))
  | .ins0 i e, ρ => M.bind (M.lift (getO (frz (esc false e) ρ) i)) fun x => M.bind (ev M C F G e (frz (esc false e) ρ)) fun d => M.bind (M.lift (dIns0 d x)) fun y => M.pure (.nx ((frz (esc false e) ρ).set i (.ow y)))
  | .seti i k e, ρ => M.bind (M.lift (getO (frz (esc false e ++ esc false k) ρ) i)) fun x => M.bind (ev M C F G e (frz (esc false e ++ esc false k) ρ)) fun d => M.bind (ev M C F G k (frz (esc false e ++ esc false k) ρ)) fun j =>
      M.bind (M.lift (dSet j d x)) fun y => M.pure (.nx ((frz (esc false e ++ esc false k) ρ).set i (.ow y)))
  | .augi i k o e, ρ => M.bind (M.lift (getO (frz (esc false e ++ esc false k) ρ) i)) fun x => M.bind (ev M C F G k (frz (esc false e ++ esc false k) ρ)) fun j => M.bind (M.lift (dIx x j)) fun old =>
      M.bind (ev M C F G e (frz (esc false e ++ esc false k) ρ)) fun y => M.bind (M.lift (int? old)) fun a => M.bind (M.lift (int? y)) fun b => M.bind (M.lift (dBin o (.int a) (.int b))) fun z =>
      M.bind (M.lift (dSet j z x)) fun y => M.pure (.nx ((frz (esc false e ++ esc false k) ρ).set i (.ow y)))
  | .upd i e, ρ => M.bind (M.lift (getO (frz (esc false e) ρ) i)) fun x => M.bind (ev M C F G e (frz (esc false e) ρ)) fun d => M.bind (M.lift (dUpd d x)) fun y => M.pure (.nx ((frz (esc false e) ρ).set i (.ow y)))
  | .popt p i, ρ => M.bind (M.lift (getO ρ i)) fun x => M.bind (M.lift (dPop x)) fun y => M.bind (M.lift (bindP p y.1 (ρ.set i (.ow y.2)))) fun ρ' => M.pure (.nx ρ')
  | .ite t a b, ρ => M.bind (ev M C F G t (frz (esc true t) ρ)) fun x => M.bind (M.lift (bool? x)) fun t' => if t' = true then exs a (frz (esc true t) ρ) else exs b (frz (esc true t) ρ)
  | .whl t b, ρ => M.whl (whlStep M (esc true t) (fun ρ => M.bind (ev M C F G t ρ) fun x => M.lift (bool? x)) (exs b) (frz (esc true t) ρ)) (frz (esc true t) ρ)
  | .for_ p s b, ρ => M.bind (evS M C F G s (frz (escF s) ρ)) fun xs => forL M (fun d ρ => M.bind (M.lift (bindP p d ρ)) fun ρ => exs b ρ) (frz (escF s) ρ) xs (frz (escF s) ρ)
  | .ret e, ρ => M.bind (ev M C F G e (frz (esc false e) ρ)) fun d => M.pure (.rt d)
  | .brk, ρ => M.pure (.bk ρ)
  | .bad, _ => M.fail
def exs : Ss → Env → m Fl
  | .nil, ρ => M.pure (.nx ρ)
  | .cons s r, ρ => M.bind (ex s ρ) fun
    | .nx ρ => exs r ρ
    | .rt d => M.pure (.rt d)
    | .bk ρ => M.pure (.bk ρ)
end
/-- a def of n names: its parameters first -/
def run (n : Nat) (b : Ss) (args : List D) : m D :=
  M.bind (exs M C F G b (args.map .sh ++ List.replicate (n - args.length) .no)) fun
    | .nx _ => M.pure .none
    | .rt d => M.pure d
    | .bk _ => M.fail
end
end PV

/-! PV: the two monads; what is reckoned in Option holds in every predicate transformer. -/
namespace PV
open PySem

def whN (step : Env → Option (Env ⊕ Fl)) : Nat → Env → Option Fl
  | 0, _ => none
  | n + 1, ρ => match step ρ with
    | none => none
    | some (.inl ρ') => whN step n ρ'
    | some (.inr f) => some f
theorem whN_mono {step : Env → Option (Env ⊕ Fl)} : ∀ {n : Nat} {ρ : Env} {f : Fl}, whN step n ρ = some f → ∀ {k : Nat}, n ≤ k → whN step k ρ = some f
  | 0, _, _, h, _, _ => by cases h
  | n + 1, ρ, f, h, 0, hk => by omega
  | n + 1, ρ, f, h, k + 1, hk => by
    unfold whN at h ⊢
    cases e : step ρ with
    | none => rw [e] at h; cases h
    | some r =>
      rw [e] at h
      cases r with
      | inl ρ' => exact whN_mono (n := n) h (by omega)
      | inr g => exact h
open Classical in
noncomputable def whO (step : Env → Option (Env ⊕ Fl)) (ρ : Env) : Option Fl :=
  if h : ∃ n, (whN step n ρ).isSome = true then whN step h.choose ρ else none
theorem whO_of {step : Env → Option (Env ⊕ Fl)} {n : Nat} {ρ : Env} {f : Fl} (h : whN step n ρ = some f) : whO step ρ = some f := by
  have hx : ∃ n, (whN step n ρ).isSome = true := ⟨n, by rw [h]; rfl⟩
  unfold whO
  rw [dif_pos hx]
  obtain ⟨g, hg⟩ := Option.isSome_iff_exists.mp hx.choose_spec
  rw [hg]
  have a := whN_mono hg (Nat.le_max_left hx.choose n)
  have b := whN_mono h (Nat.le_max_right hx.choose n)
  rw [a] at b
  exact b
theorem whO_ex {step : Env → Option (Env ⊕ Fl)} {ρ : Env} {f : Fl} (h : whO step ρ = some f) : ∃ n, whN step n ρ = some f := by
  unfold whO at h
  split at h
  · exact ⟨_, h⟩
  · cases h
/-- a turn of a while -/
theorem whO_next {step : Env → Option (Env ⊕ Fl)} {ρ ρ' : Env} (h : step ρ = some (.inl ρ')) : whO step ρ = whO step ρ' := by
  cases e : whO step ρ' with
  | some f =>
    obtain ⟨n, hn⟩ := whO_ex e
    refine whO_of (n := n + 1) ?_
    unfold whN
    rw [h]
    exact hn
  | none =>
    cases e2 : whO step ρ with
    | none => rfl
    | some f =>
      obtain ⟨n, hn⟩ := whO_ex e2
      cases n with
      | zero => cases hn
      | succ n =>
        unfold whN at hn
        rw [h] at hn
        rw [whO_of hn] at e
        cases e
theorem whO_end {step : Env → Option (Env ⊕ Fl)} {ρ : Env} {f : Fl} (h : step ρ = some (.inr f)) : whO step ρ = some f := by
  refine whO_of (n := 1) ?_
  unfold whN
  rw [h]

noncomputable def optM : Mo Option where
  pure := some
  bind := Option.bind
  fail := none
  whl := whO
abbrev W (α : Type) := (α → Prop) → Prop
def wWhl (step : Env → W (Env ⊕ Fl)) (ρ : Env) : W Fl := fun Q => ∃ J : Nat → Env → Prop, (∃ n, J n ρ) ∧ ∀ n ρ, J n ρ → step ρ fun
  | .inl ρ' => ∃ k, k < n ∧ J k ρ'
  | .inr f => Q f
def wM : Mo W where
  pure a Q := Q a
  bind x f Q := x fun a => f a Q
  fail _ := False
  whl := wWhl

/-- x gives what o gives -/
def Gv {α : Type} (o : Option α) (x : W α) : Prop := ∀ a, o = some a → ∀ Q : α → Prop, Q a → x Q
theorem Gv.pure {α : Type} {a : α} : Gv (optM.pure a) (wM.pure a) := fun b h Q q => by
  have e : a = b := Option.some.inj h
  subst e
  exact q
theorem Gv.fail {α : Type} {x : W α} : Gv (optM.fail : Option α) x := fun b h => by cases h
theorem Gv.bind {α β : Type} {o : Option α} {x : W α} {f : α → Option β} {g : α → W β} (h : Gv o x) (k : ∀ a, Gv (f a) (g a)) : Gv (optM.bind o f) (wM.bind x g) := fun b e Q q => by
  have e' : o.bind f = some b := e
  cases ho : o with
  | none => rw [ho] at e'; cases e'
  | some a =>
    rw [ho] at e'
    exact h a ho _ (k a b e' Q q)
theorem Gv.lift {α : Type} (o : Option α) : Gv (optM.lift o) (wM.lift o) := by
  cases o with
  | none => exact Gv.fail
  | some a => exact Gv.pure
theorem Gv.ite {α : Type} {c : Prop} [Decidable c] {o o' : Option α} {x x' : W α} (h : Gv o x) (h' : Gv o' x') : Gv (if c then o else o') (if c then x else x') := by
  split
  · exact h
  · exact h'
theorem Gv.whl {s : Env → Option (Env ⊕ Fl)} {t : Env → W (Env ⊕ Fl)} (h : ∀ ρ, Gv (s ρ) (t ρ)) (ρ : Env) : Gv (optM.whl s ρ) (wM.whl t ρ) := fun f e Q q => by
  obtain ⟨n, hn⟩ := whO_ex (show whO s ρ = some f from e)
  refine ⟨fun n ρ => whN s n ρ = some f, ⟨n, hn⟩, fun n ρ hJ => ?_⟩
  cases n with
  | zero => cases hJ
  | succ n =>
    unfold whN at hJ
    cases e2 : s ρ with
    | none => rw [e2] at hJ; cases hJ
    | some r =>
      rw [e2] at hJ
      refine h ρ r e2 _ ?_
      cases r with
      | inl ρ' => exact ⟨n, Nat.lt_succ_self n, hJ⟩
      | inr g =>
        have e3 : g = f := Option.some.inj hJ
        subst e3
        exact q
section
variable {C : Nat → Option D} {F G : Nat → List D → Option D} {F' G' : Nat → List D → W D}
theorem gv_compL {g : D → Option (Option D)} {g' : D → W (Option D)} (h : ∀ d, Gv (g d) (g' d)) : ∀ xs, Gv (compL optM g xs) (compL wM g' xs)
  | [] => Gv.pure
  | x :: xs => (h x).bind fun o => (gv_compL h xs).bind fun ys => Gv.pure
theorem gv_compLL {s : D → Option (Option (Env × List D))} {s' : D → W (Option (Env × List D))} {g : Env → D → Option (Option D)} {g' : Env → D → W (Option D)} (hs : ∀ d, Gv (s d) (s' d)) (h : ∀ ρ d, Gv (g ρ d) (g' ρ d)) :
    ∀ acc xs, Gv (compLL optM s g acc xs) (compLL wM s' g' acc xs)
  | acc, [] => Gv.pure
  | acc, x :: xs => (hs x).bind fun o => match o with
    | none => gv_compLL hs h acc xs
    | some (ρ, zs) => Gv.ite ((gv_compL (h ρ) zs).bind fun ys => gv_compLL hs h (acc ++ ys) xs) Gv.fail
theorem gv_forL {g : D → Env → Option Fl} {g' : D → Env → W Fl} (h : ∀ d ρ, Gv (g d ρ) (g' d ρ)) (ρ0 : Env) : ∀ xs ρ, Gv (forL optM g ρ0 xs ρ) (forL wM g' ρ0 xs ρ)
  | [], ρ => Gv.pure
  | x :: xs, ρ => (h x ρ).bind fun f => match f with
    | .nx ρ' => gv_forL h ρ0 xs (msk ρ0 ρ')
    | .rt d => Gv.pure
    | .bk ρ' => Gv.pure
theorem gv_step {c : Env → Option Bool} {c' : Env → W Bool} {b : Env → Option Fl} {b' : Env → W Fl} (hc : ∀ ρ, Gv (c ρ) (c' ρ)) (hb : ∀ ρ, Gv (b ρ) (b' ρ)) (vs : List Nat) (ρ0 ρ : Env) : Gv (whlStep optM vs c b ρ0 ρ) (whlStep wM vs c' b' ρ0 ρ) :=
  (hc ρ).bind fun t => Gv.ite ((hb ρ).bind fun f => match f with
    | .nx ρ' => Gv.pure
    | .rt d => Gv.pure
    | .bk ρ' => Gv.pure) Gv.pure
variable (hF : ∀ n ds, Gv (F n ds) (F' n ds)) (hG : ∀ n ds, Gv (G n ds) (G' n ds))
include hF hG
mutual
theorem gv_ev : ∀ (e : E) (ρ : Env), Gv (ev optM C F G e ρ) (ev wM C F' G' e ρ)
  | .none, _ => by unfold ev; exact Gv.pure
  | .bl b, _ => by unfold ev; exact Gv.pure
  | .int i, _ => by unfold ev; exact Gv.pure
  | .str s, _ => by unfold ev; exact Gv.pure
  | .var i, ρ => by unfold ev; exact Gv.lift _
  | .gl n, _ => by unfold ev; exact Gv.lift _
  | .bin o a b, ρ => by unfold ev; exact (gv_ev a ρ).bind fun x => (gv_ev b ρ).bind fun y => Gv.lift _
  | .neg a, ρ => by unfold ev; exact (gv_ev a ρ).bind fun x => Gv.lift _
  | .not a, ρ => by unfold ev; exact (gv_ev a ρ).bind fun x => Gv.lift _
  | .and a b, ρ => by unfold ev; exact (gv_ev a ρ).bind fun x => (Gv.lift _).bind fun t => Gv.ite (gv_ev b ρ) Gv.pure
  | .or a b, ρ => by unfold ev; exact (gv_ev a ρ).bind fun x => (Gv.lift _).bind fun t => Gv.ite Gv.pure (gv_ev b ρ)
  | .cmp c a b, ρ => by unfold ev; exact (gv_ev a ρ).bind fun x => (gv_ev b ρ).bind fun y => Gv.lift _
  | .chain c c' a b d, ρ => by unfold ev; exact (gv_ev a ρ).bind fun x => (gv_ev b ρ).bind fun y => (Gv.lift _).bind fun t => Gv.ite ((gv_ev d ρ).bind fun z => Gv.lift _) Gv.pure
  | .ife t a b, ρ => by unfold ev; exact (gv_ev t ρ).bind fun x => (Gv.lift _).bind fun t => Gv.ite (gv_ev a ρ) (gv_ev b ρ)
  | .tup es, ρ => by unfold ev; exact (gv_evs es ρ).bind fun ds => Gv.pure
  | .lst es, ρ => by unfold ev; exact (gv_evs es ρ).bind fun ds => Gv.pure
  | .dct0, _ => by unfold ev; exact Gv.pure
  | .ix a i, ρ => by unfold ev; exact (gv_ev a ρ).bind fun x => (gv_ev i ρ).bind fun y => Gv.lift _
  | .sl a lo hi, ρ => by unfold ev; exact (gv_ev a ρ).bind fun x => (gv_ev lo ρ).bind fun y => (Gv.lift _).bind fun l => (gv_ev hi ρ).bind fun z => (Gv.lift _).bind fun h => Gv.lift _
  | .rev a, ρ => by unfold ev; exact (gv_ev a ρ).bind fun x => Gv.lift _
  | .yes, _ => by unfold ev; exact Gv.pure
  | .comp own p s t elt, ρ => by
    unfold ev
    exact (gv_evS s ρ).bind fun xs => (gv_compL (fun d => (Gv.lift _).bind fun ρ1 => (gv_ev t ρ1).bind fun x => (Gv.lift _).bind fun b => Gv.ite ((gv_ev elt ρ1).bind fun y => Gv.pure) Gv.pure) xs).bind fun ys => Gv.pure
  | .comp2 own own1 p s t p1 s1 t1 elt, ρ => by
    unfold ev
    exact (gv_evS s ρ).bind fun xs => (gv_compLL (fun d => (Gv.lift _).bind fun ρ1 => (gv_ev t ρ1).bind fun x => (Gv.lift _).bind fun b => Gv.ite ((gv_evS s1 ρ1).bind fun zs => Gv.pure) Gv.pure)
      (fun ρ1 d => (Gv.lift _).bind fun ρ2 => (gv_ev t1 ρ2).bind fun x => (Gv.lift _).bind fun b => Gv.ite ((gv_ev elt ρ2).bind fun y => Gv.pure) Gv.pure) [] xs).bind fun ys => Gv.pure
  | .call f es, ρ => by unfold ev; exact (gv_evs es ρ).bind fun ds => hF f ds
  | .callw f es, ρ => by unfold ev; exact (gv_evs es ρ).bind fun ds => hG f ds
  | .bi b a, ρ => by unfold ev; exact (gv_ev a ρ).bind fun x => Gv.lift _
  | .bis b s, ρ => by unfold ev; exact (gv_evS s ρ).bind fun x => Gv.lift _
  | .mx a b, ρ => by unfold ev; exact (gv_ev a ρ).bind fun x => (gv_ev b ρ).bind fun y => Gv.lift _
  | .mn a b, ρ => by unfold ev; exact (gv_ev a ρ).bind fun x => (gv_ev b ρ).bind fun y => Gv.lift _
  | .isin a t, ρ => by unfold ev; exact (gv_ev a ρ).bind fun x => Gv.pure
  | .count a x, ρ => by unfold ev; exact (gv_ev a ρ).bind fun x => (gv_ev _ ρ).bind fun y => Gv.lift _
  | .index a x, ρ => by unfold ev; exact (gv_ev a ρ).bind fun x => (gv_ev _ ρ).bind fun y => Gv.lift _
  | .get1 a k, ρ => by unfold ev; exact (gv_ev a ρ).bind fun x => (gv_ev k ρ).bind fun y => Gv.lift _
  | .get2 a k d, ρ => by unfold ev; exact (gv_ev a ρ).bind fun x => (gv_ev k ρ).bind fun y => (gv_ev d ρ).bind fun z => Gv.lift _
  | .bad, _ => by unfold ev; exact Gv.fail
theorem gv_evs : ∀ (es : Es) (ρ : Env), Gv (evs optM C F G es ρ) (evs wM C F' G' es ρ)
  | .nil, _ => by unfold evs; exact Gv.pure
  | .cons e es, ρ => by unfold evs; exact (gv_ev e ρ).bind fun d => (gv_evs es ρ).bind fun ds => Gv.pure
theorem gv_evS : ∀ (s : Src) (ρ : Env), Gv (evS optM C F G s ρ) (evS wM C F' G' s ρ)
  | .val e, ρ => by unfold evS; exact (gv_ev e ρ).bind fun d => Gv.lift _
  | .r1 a, ρ => by unfold evS; exact (gv_ev a ρ).bind fun x => (Gv.lift _).bind fun i => Gv.ite Gv.pure Gv.fail
  | .r2 a b, ρ => by unfold evS; exact (gv_ev a ρ).bind fun x => (Gv.lift _).bind fun i => (gv_ev b ρ).bind fun y => (Gv.lift _).bind fun j => Gv.ite Gv.pure Gv.fail
  | .r3 a b c, ρ => by unfold evS; exact (gv_ev a ρ).bind fun x => (Gv.lift _).bind fun i => (gv_ev b ρ).bind fun y => (Gv.lift _).bind fun j => (gv_ev c ρ).bind fun z => (Gv.lift _).bind fun k => Gv.ite Gv.pure Gv.fail
  | .zip a b, ρ => by unfold evS; exact (gv_ev a ρ).bind fun x => (gv_ev b ρ).bind fun y => Gv.lift _
end
mutual
theorem gv_ex : ∀ (s : S) (ρ : Env), Gv (ex optM C F G s ρ) (ex wM C F' G' s ρ)
  | .pass, ρ => by unfold ex; exact Gv.pure
  | .asg i e, ρ => by unfold ex; exact (gv_ev hF hG e _).bind fun d => Gv.pure
  | .asgp is es, ρ => by unfold ex; exact (gv_evs hF hG es _).bind fun ds => (Gv.lift _).bind fun ρ' => Gv.pure
  | .asgt p e, ρ => by unfold ex; exact (gv_ev hF hG e _).bind fun d => (Gv.lift _).bind fun ρ' => Gv.pure
  | .aug i o e, ρ => by unfold ex; exact (Gv.lift _).bind fun x => (gv_ev hF hG e _).bind fun y => (Gv.lift _).bind fun a => (Gv.lift _).bind fun b => (Gv.lift _).bind fun z => Gv.pure
  | .app i e, ρ => by unfold ex; exact (Gv.lift _).bind fun x => (gv_ev hF hG e _).bind fun d => (Gv.lift _).bind fun y => Gv.pure
  | .ext i e, ρ => by unfold ex; exact (Gv.lift _).bind fun x => (gv_ev hF hG e _).bind fun d => (Gv.lift _).bind fun y => Gv.pure
  | .ins0 i e, ρ => by unfold ex; exact (Gv.lift _).bind fun x => (gv_ev hF hG e _).bind fun d => (Gv.lift _).bind fun y => Gv.pure
  | .seti i k e, ρ => by unfold ex; exact (Gv.lift _).bind fun x => (gv_ev hF hG e _).bind fun d => (gv_ev hF hG k _).bind fun j => (Gv.lift _).bind fun y => Gv.pure
  | .augi i k o e, ρ => by
    unfold ex
    exact (Gv.lift _).bind fun x => (gv_ev hF hG k _).bind fun j => (Gv.lift _).bind fun old => (gv_ev hF hG e _).bind fun y => (Gv.lift _).bind fun a => (Gv.lift _).bind fun b => (Gv.lift _).bind fun z => (Gv.lift _).bind fun y => Gv.pure
  | .upd i e, ρ => by unfold ex; exact (Gv.lift _).bind fun x => (gv_ev hF hG e _).bind fun d => (Gv.lift _).bind fun y => Gv.pure
  | .popt p i, ρ => by unfold ex; exact (Gv.lift _).bind fun x => (Gv.lift _).bind fun y => (Gv.lift _).bind fun ρ' => Gv.pure
  | .ite t a b, ρ => by unfold ex; exact (gv_ev hF hG t _).bind fun x => (Gv.lift _).bind fun t' => Gv.ite (gv_exs a _) (gv_exs b _)
  | .whl t b, ρ => by unfold ex; exact Gv.whl (fun ρ => gv_step (fun ρ => (gv_ev hF hG t ρ).bind fun x => Gv.lift _) (fun ρ => gv_exs b ρ) _ _ ρ) _
  | .for_ p s b, ρ => by unfold ex; exact (gv_evS hF hG s _).bind fun xs => gv_forL (fun d ρ => (Gv.lift _).bind fun ρ => gv_exs b ρ) _ xs _
  | .ret e, ρ => by unfold ex; exact (gv_ev hF hG e _).bind fun d => Gv.pure
  | .brk, ρ => by unfold ex; exact Gv.pure
  | .bad, _ => by unfold ex; exact Gv.fail
theorem gv_exs : ∀ (s : Ss) (ρ : Env), Gv (exs optM C F G s ρ) (exs wM C F' G' s ρ)
  | .nil, ρ => by unfold exs; exact Gv.pure
  | .cons s r, ρ => by
    unfold exs
    exact (gv_ex s ρ).bind fun f => match f with
      | .nx ρ => gv_exs r ρ
      | .rt d => Gv.pure
      | .bk ρ => Gv.pure
end
theorem gv_run (n : Nat) (b : Ss) (args : List D) : Gv (run optM C F G n b args) (run wM C F' G' n b args) := by
  unfold run
  exact (gv_exs hF hG b _).bind fun f => match f with
    | .nx _ => Gv.pure
    | .rt d => Gv.pure
    | .bk _ => Gv.fail
end
end PV

/-! PV: how data lies in the abstract heap. -/
namespace PV
open PySem L2

def Le (H H' : Hp) : Prop := ∀ a o, H a = some o → H' a = some o
theorem Le.refl (H : Hp) : Le H H := fun _ _ h => h
theorem Le.trans {H H1 H2 : Hp} (a : Le H H1) (b : Le H1 H2) : Le H H2 := fun x o h => b x o (a x o h)
theorem Le.new {H : Hp} {p : Addr} {o : HO} (h : H p = none) : Le H (upd H p o) := Evl.Ex.new h
theorem Le.rd {H H' : Hp} {a : Addr} {u : HO} (e : Le H H') (h : Rd H a u) : Rd H' a u := Evl.ex_rd e h
theorem Le.sl {K : PySem.W.Frag} {H H' : Hp} {a : Addr} {xs : List V} (e : Le H H') (h : SqL K H a xs) : SqL K H' a xs := Evl.ex_l e h
theorem Le.st {K : PySem.W.Frag} {H H' : Hp} {a : Addr} {xs : List V} (e : Le H H') (h : SqT K H a xs) : SqT K H' a xs := Evl.ex_t e h
/-- the objects at O taken out -/
def hid (O : List Addr) (H : Hp) : Hp := fun a => if O.contains a then none else H a
theorem hid_le (O : List Addr) (H : Hp) : Le (hid O H) H := fun a o h => by
  unfold hid at h
  split at h
  · cases h
  · exact h
theorem hid_mono {O : List Addr} {H H' : Hp} (e : ∀ a o, a ∉ O → H a = some o → H' a = some o) : Le (hid O H) (hid O H') := fun a o h => by
  unfold hid at h ⊢
  split at h
  · cases h
  · rename_i hn
    rw [if_neg hn]
    exact e a o (fun hm => hn (by simpa using hm)) h
theorem hid_le_mono {O : List Addr} {H H' : Hp} (e : Le H H') : Le (hid O H) (hid O H') := hid_mono fun a o _ h => e a o h
theorem hid_sub {O O' : List Addr} {H : Hp} (s : ∀ a, a ∈ O' → a ∈ O) : Le (hid O H) (hid O' H) := fun a o h => by
  unfold hid at h ⊢
  split at h
  · cases h
  · rename_i hn
    rw [if_neg fun hm => hn (by simpa using s a (by simpa using hm))]
    exact h
theorem hid_out {O : List Addr} {H : Hp} {a : Addr} {o : HO} (h : hid O H a = some o) : a ∉ O := fun hm => by
  unfold hid at h
  rw [if_pos (by simpa using hm)] at h
  cases h
theorem hid_in {O : List Addr} {H : Hp} {a : Addr} {o : HO} (h : a ∉ O) (e : H a = some o) : hid O H a = some o := by
  unfold hid
  rw [if_neg fun hm => h (by simpa using hm)]
  exact e
theorem hid_nil (H : Hp) : hid [] H = H := by
  funext a
  unfold hid
  simp
/-- an object at O changes: nothing is seen of it -/
theorem hid_upd {O : List Addr} {H : Hp} {p : Addr} {o : HO} (h : p ∈ O) : hid O (upd H p o) = hid O H := by
  funext a
  unfold hid upd
  by_cases ha : O.contains a
  · rw [if_pos ha, if_pos ha]
  · rw [if_neg ha, if_neg ha, if_neg]
    intro e
    exact ha (by rw [e]; simpa using h)

mutual
inductive Rp (K : PySem.W.Frag) (H : Hp) : V → D → Prop
  | non : Rp K H .non .none
  | bl (b : Bool) : Rp K H (.bl b) (.bool b)
  | int (i : Int) : Rp K H (.int i) (.int i)
  | str (x : Str) : Rp K H (.str x) (.str x)
  | lst {a : Addr} {xs : List V} {ds : List D} : H a = some (.lst xs) → Rps K H xs ds → Rp K H (.ref a) (.list ds)
  | tup {a : Addr} {xs : List V} {ds : List D} : SqT K H a xs → Rps K H xs ds → Rp K H (.ref a) (.tuple ds)
inductive Rps (K : PySem.W.Frag) (H : Hp) : List V → List D → Prop
  | nil : Rps K H [] []
  | cons {v : V} {vs : List V} {d : D} {ds : List D} : Rp K H v d → Rps K H vs ds → Rps K H (v :: vs) (d :: ds)
end
section
variable {K : PySem.W.Frag} {H H' : Hp}
mutual
theorem Rp.mono (e : Le H H') : ∀ {d : D} {v : V}, Rp K H v d → Rp K H' v d
  | .none, _, h => by cases h; exact .non
  | .bool b, _, h => by cases h; exact .bl b
  | .int i, _, h => by cases h; exact .int i
  | .str x, _, h => by cases h; exact .str x
  | .list ds, _, h => by cases h with | lst hs ha => exact .lst (e _ _ hs) (Rps.mono e ha)
  | .tuple ds, _, h => by cases h with | tup hs ha => exact .tup (e.st hs) (Rps.mono e ha)
  | .dict _, _, h => by cases h
theorem Rps.mono (e : Le H H') : ∀ {ds : List D} {vs : List V}, Rps K H vs ds → Rps K H' vs ds
  | [], _, h => by cases h; exact .nil
  | d :: ds, _, h => by cases h with | cons h1 h2 => exact .cons (Rp.mono e h1) (Rps.mono e h2)
end
mutual
theorem Rp.dp : ∀ {d : D} {v : V}, Rp K H v d → Dp K H v d
  | .none, _, h => by cases h; exact .non
  | .bool b, _, h => by cases h; exact .bl b
  | .int i, _, h => by cases h; exact .int i
  | .str x, _, h => by cases h; exact .str x
  | .list ds, _, h => by cases h with | lst hs ha => exact .lst (.inl (.inl hs)) (Rps.dp ha)
  | .tuple ds, _, h => by cases h with | tup hs ha => exact .tup hs (Rps.dp ha)
  | .dict _, _, h => by cases h
theorem Rps.dp : ∀ {ds : List D} {vs : List V}, Rps K H vs ds → DpAll K H vs ds
  | [], _, h => by cases h; exact .nil
  | d :: ds, _, h => by cases h with | cons h1 h2 => exact .cons (Rp.dp h1) (Rps.dp h2)
end
theorem Rps.length : ∀ {vs : List V} {ds : List D}, Rps K H vs ds → vs.length = ds.length
  | _, _, .nil => rfl
  | _, _, .cons _ t => by simp [Rps.length t]
theorem Rps.append : ∀ {vs ws : List V} {ds es : List D}, Rps K H vs ds → Rps K H ws es → Rps K H (vs ++ ws) (ds ++ es)
  | _, _, _, _, .nil, h => h
  | _, _, _, _, .cons a t, h => .cons a (Rps.append t h)
theorem Rps.get : ∀ {vs : List V} {ds : List D} {i : Nat} {v : V}, Rps K H vs ds → vs[i]? = some v → ∃ d, ds[i]? = some d ∧ Rp K H v d
  | _, _, _, _, .nil, e => by simp at e
  | _, _, 0, _, .cons r _, e => by simp at e; subst e; exact ⟨_, rfl, r⟩
  | _, _, i + 1, v, .cons _ t, e => by
    obtain ⟨d, h1, h2⟩ := Rps.get (i := i) (v := v) t (by simpa using e)
    exact ⟨d, by simpa using h1, h2⟩
theorem Rps.getD : ∀ {vs : List V} {ds : List D} {i : Nat} {d : D}, Rps K H vs ds → ds[i]? = some d → ∃ v, vs[i]? = some v ∧ Rp K H v d
  | _, _, _, _, .nil, e => by simp at e
  | _, _, 0, _, .cons r _, e => by simp at e; subst e; exact ⟨_, rfl, r⟩
  | _, _, i + 1, d, .cons _ t, e => by
    obtain ⟨v, h1, h2⟩ := Rps.getD (i := i) (d := d) t (by simpa using e)
    exact ⟨v, by simpa using h1, h2⟩
theorem Rps.set {v : V} {d : D} (r : Rp K H v d) : ∀ {vs : List V} {ds : List D} (i : Nat), Rps K H vs ds → Rps K H (vs.set i v) (ds.set i d)
  | _, _, _, .nil => .nil
  | _, _, 0, .cons _ t => .cons r t
  | _, _, i + 1, .cons q t => .cons q (Rps.set r i t)
theorem Rps.take : ∀ {vs : List V} {ds : List D} (n : Nat), Rps K H vs ds → Rps K H (vs.take n) (ds.take n)
  | _, _, 0, _ => by simp; exact .nil
  | _, _, _ + 1, .nil => .nil
  | _, _, n + 1, .cons r t => .cons r (Rps.take n t)
theorem Rps.drop : ∀ {vs : List V} {ds : List D} (n : Nat), Rps K H vs ds → Rps K H (vs.drop n) (ds.drop n)
  | _, _, 0, r => r
  | _, _, _ + 1, .nil => .nil
  | _, _, n + 1, .cons _ t => Rps.drop n t
theorem Rps.dropLast {vs : List V} {ds : List D} (h : Rps K H vs ds) : Rps K H vs.dropLast ds.dropLast := by
  rw [List.dropLast_eq_take, List.dropLast_eq_take, h.length]
  exact h.take _
theorem Rps.reverse : ∀ {vs : List V} {ds : List D}, Rps K H vs ds → Rps K H vs.reverse ds.reverse
  | _, _, .nil => .nil
  | _, _, .cons r t => by
    rw [List.reverse_cons, List.reverse_cons]
    exact (Rps.reverse t).append (.cons r .nil)
theorem Rps.flat {vs : List V} {ds : List D} (h : Rps K H vs ds) : ∀ n : Nat, Rps K H (List.replicate n vs).flatten (List.replicate n ds).flatten
  | 0 => .nil
  | n + 1 => by
    rw [List.replicate_succ, List.replicate_succ, List.flatten_cons, List.flatten_cons]
    exact h.append (Rps.flat h n)
theorem Rps.cut {vs : List V} {ds : List D} (h : Rps K H vs ds) (lo hi : Option Int) : Rps K H (cutV vs lo hi) (PV.cut ds lo hi) := by
  unfold cutV PV.cut
  rw [h.length]
  exact (h.drop _).take _
theorem Rps.nil_iff {vs : List V} {ds : List D} (h : Rps K H vs ds) : vs = [] ↔ ds = [] := by
  constructor
  · intro e
    subst e
    cases h
    rfl
  · intro e
    subst e
    cases h
    rfl
theorem Rps.ints : ∀ {vs : List V} {ds : List D} {ns : List Int}, Rps K H vs ds → ints? ds = some ns → vs = ns.map V.int
  | _, _, ns, .nil, e => by
    have : ([] : List Int) = ns := Option.some.inj e
    subst this
    rfl
  | _, d :: ds, ns, .cons r t, e => by
    cases d with
    | int i =>
      unfold ints? at e
      cases hq : ints? ds with
      | none => rw [hq] at e; cases e
      | some ms =>
        rw [hq] at e
        have : i :: ms = ns := Option.some.inj e
        subst this
        cases r
        rw [Rps.ints t hq]
        rfl
    | _ => cases e
theorem Rps.bools : ∀ {vs : List V} {ds : List D} {ns : List Bool}, Rps K H vs ds → bools? ds = some ns → vs = ns.map V.bl
  | _, _, ns, .nil, e => by
    have : ([] : List Bool) = ns := Option.some.inj e
    subst this
    rfl
  | _, d :: ds, ns, .cons r t, e => by
    cases d with
    | bool i =>
      unfold bools? at e
      cases hq : bools? ds with
      | none => rw [hq] at e; cases e
      | some ms =>
        rw [hq] at e
        have : i :: ms = ns := Option.some.inj e
        subst this
        cases r
        rw [Rps.bools t hq]
        rfl
    | _ => cases e
end
section
variable {X : Cx} {pins : List (Addr × Obj)} {σ : L2.St} {H : Hp} {s : Shared}
theorem Rp.reads (I : Inv X pins σ H s) {v : V} {d : D} {u : Value} (h : Rp X.K H v d) (r : RelV v u) : ∃ as, Reads s.heap u d as := Dp.reads I d v u h.dp r
theorem Rps.reads (I : Inv X pins σ H s) {vs : List V} {ds : List D} {us : List Value} (h : Rps X.K H vs ds) (r : Vals vs us) : ∃ as, ReadsAll s.heap us ds as := Dp.readsAll I ds vs us h.dp r
end

/-! ### what a def that draws has beside: the dict w (the place, its list, the draws) -/
abbrev Wp := Option (Addr × Addr × List Int)
def WOk : Wp → Hp → Prop
  | none, _ => True
  | some (pw, pd, ds), H => ∃ j : Int, 0 ≤ j ∧ H pw = some (.dK [(.inr "draws", .ref pd), (.inr "at", .int j)]) ∧ H pd = some (.lst (ds.map .int))
def Wp.is (w : Wp) (a : Addr) : Prop := ∃ t, w = some t ∧ a = t.1
/-- all but w's dict stays -/
def Ext (w : Wp) (H H' : Hp) : Prop := (∀ a o, ¬ w.is a → H a = some o → H' a = some o) ∧ WOk w H'
theorem Ext.refl {w : Wp} {H : Hp} (h : WOk w H) : Ext w H H := ⟨fun _ _ _ e => e, h⟩
theorem Ext.trans {w : Wp} {H H1 H2 : Hp} (a : Ext w H H1) (b : Ext w H1 H2) : Ext w H H2 := ⟨fun x o n e => b.1 x o n (a.1 x o n e), b.2⟩
theorem WOk.le {w : Wp} {H H' : Hp} (h : WOk w H) (e : Le H H') : WOk w H' := by
  cases w with
  | none => trivial
  | some t =>
    obtain ⟨pw, pd, ds⟩ := t
    obtain ⟨j, h0, h1, h2⟩ := h
    exact ⟨j, h0, e _ _ h1, e _ _ h2⟩
theorem Ext.of_le {w : Wp} {H H' : Hp} (h : WOk w H) (e : Le H H') : Ext w H H' := ⟨fun a o _ q => e a o q, h.le e⟩
theorem Ext.new {w : Wp} {H : Hp} {p : Addr} {o : HO} (h : WOk w H) (n : H p = none) : Ext w H (upd H p o) := Ext.of_le h (Le.new n)
theorem Ext.hid {w : Wp} {H H' : Hp} {O : List Addr} (e : Ext w H H') (hw : ∀ a, w.is a → a ∈ O) : Le (hid O H) (PV.hid O H') :=
  hid_mono fun a o n q => e.1 a o (fun z => n (hw a z)) q

/-- a list that one slot alone holds -/
def Own (K : PySem.W.Frag) (O : List Addr) (H : Hp) (p : Addr) (d : D) : Prop :=
  p ∈ O ∧ ∃ ds vs, d = .list ds ∧ H p = some (.lst vs) ∧ Rps K (hid O H) vs ds
def SlotOk (K : PySem.W.Frag) (O : List Addr) (H : Hp) : Slot → Option V → Prop
  | .no, _ => True
  | .sh d, o => ∃ v, o = some v ∧ Rp K (hid O H) v d
  | .ow d, o => ∃ p, o = some (.ref p) ∧ Own K O H p d
  | .fx v, o => o = some v
/-- the slots of a def (their values at σ) are the environment; H0: the heap at the entry, O0: what the callers hold alone; iw: the name w -/
structure Sim (K : PySem.W.Frag) (w : Wp) (iw : Nat) (O0 : List Addr) (H0 : Hp) (O : List Addr) (H : Hp) (σ : L2.St) (ρ : Env) : Prop where
  len : σ.length = ρ.length
  slot : ∀ (i : Nat) (s : Slot), ρ[i]? = some s → SlotOk K O H s (σ[i]?.join)
  inj : ∀ (i j : Nat) (d d' : D) (p : Addr), ρ[i]? = some (.ow d) → ρ[j]? = some (.ow d') → σ[i]? = some (some (.ref p)) → σ[j]? = some (some (.ref p)) → i = j
  dom : ∀ p ∈ O, H p ≠ none
  dom0 : ∀ p ∈ O0, H0 p ≠ none
  sub : ∀ p ∈ O0, p ∈ O
  fresh : ∀ p ∈ O, p ∈ O0 ∨ H0 p = none
  ent : Ext w H0 H
  w0 : WOk w H0
  wO : ∀ a, w.is a → a ∈ O0
  wS : ∀ t, w = some t → σ[iw]? = some (some (.ref t.1)) ∧ ρ[iw]? = some .no
  own : ∀ (i : Nat) (d : D) (p : Addr), ρ[i]? = some (.ow d) → σ[i]? = some (some (.ref p)) → H0 p = none

section
variable {K : PySem.W.Frag} {w : Wp} {iw : Nat} {O0 O : List Addr} {H0 H H' : Hp} {σ : L2.St} {ρ : Env}
theorem Sim.wok (S : Sim K w iw O0 H0 O H σ ρ) : WOk w H := S.ent.2
theorem Sim.wo (S : Sim K w iw O0 H0 O H σ ρ) : ∀ a, w.is a → a ∈ O := fun a h => S.sub a (S.wO a h)
/-- the heap goes on -/
theorem Sim.ext (S : Sim K w iw O0 H0 O H σ ρ) (e : Ext w H H') : Sim K w iw O0 H0 O H' σ ρ where
  len := S.len
  slot := fun i s h => by
    have q := S.slot i s h
    have le := e.hid S.wo
    cases s with
    | no => trivial
    | fx v => exact q
    | sh d =>
      obtain ⟨v, e1, r⟩ := q
      exact ⟨v, e1, r.mono le⟩
    | ow d =>
      obtain ⟨p, e1, hp, ds, vs, e2, hH, r⟩ := q
      refine ⟨p, e1, hp, ds, vs, e2, e.1 p _ (fun hw => ?_) hH, r.mono le⟩
      obtain ⟨t, ht, rfl⟩ := hw
      have wk := S.wok
      rw [ht] at wk
      obtain ⟨j, _, h1, _⟩ := wk
      rw [hH] at h1
      cases h1
  inj := S.inj
  dom := fun p hp hn => by
    cases q : H p with
    | none => exact S.dom p hp q
    | some o =>
      by_cases hw : w.is p
      · obtain ⟨t, ht, rfl⟩ := hw
        have wk := e.2
        rw [ht] at wk
        obtain ⟨j, _, h1, _⟩ := wk
        rw [h1] at hn
        cases hn
      · rw [e.1 p o hw q] at hn
        cases hn
  dom0 := S.dom0
  sub := S.sub
  fresh := S.fresh
  ent := S.ent.trans e
  w0 := S.w0
  wO := S.wO
  wS := S.wS
  own := S.own
theorem getV_sh {i : Nat} {d : D} (h : getV ρ i = some d) : ρ[i]? = some (.sh d) ∨ ρ[i]? = some (.ow d) := by
  unfold getV at h
  cases e : ρ[i]? with
  | none => rw [e] at h; cases h
  | some s =>
    rw [e] at h
    cases s with
    | no => cases h
    | fx _ => cases h
    | sh d' => have : d' = d := Option.some.inj h; subst this; exact .inl rfl
    | ow d' => have : d' = d := Option.some.inj h; subst this; exact .inr rfl
theorem getO_ow {i : Nat} {d : D} (h : getO ρ i = some d) : ρ[i]? = some (.ow d) := by
  unfold getO at h
  cases e : ρ[i]? with
  | none => rw [e] at h; cases h
  | some s =>
    rw [e] at h
    cases s with
    | no => cases h
    | fx _ => cases h
    | sh d' => cases h
    | ow d' => have : d' = d := Option.some.inj h; subst this; rfl
theorem join_some {α : Type} {o : Option (Option α)} {a : α} (h : o.join = some a) : o = some (some a) := by
  cases o with
  | none => cases h
  | some x => exact congrArg some h
/-- a value that is only looked at: it avoids what is held alone, or is such a thing itself -/
def Br (K : PySem.W.Frag) (O : List Addr) (H : Hp) (v : V) (d : D) : Prop := Rp K (hid O H) v d ∨ ∃ p, v = .ref p ∧ Own K O H p d
theorem Own.rp {p : Addr} {d : D} (h : Own K O H p d) : Rp K H (.ref p) d := by
  obtain ⟨hp, ds, vs, e2, hH, r⟩ := h
  subst e2
  exact .lst hH (r.mono (hid_le O H))
theorem Br.rp {v : V} {d : D} (h : Br K O H v d) : Rp K H v d := by
  rcases h with h | ⟨p, rfl, h⟩
  · exact h.mono (hid_le O H)
  · exact h.rp
/-- its items avoid what is held alone -/
theorem Br.items {v : V} {d : D} {ds : List D} (h : Br K O H v d) (e : items d = some ds) : ∃ a vs, v = .ref a ∧ Rps K (hid O H) vs ds ∧ ((d = .list ds ∧ H a = some (.lst vs)) ∨ (d = .tuple ds ∧ SqT K H a vs)) := by
  rcases h with h | ⟨p, rfl, hp, es, vs, rfl, hH, r⟩
  · cases h with
    | lst hs ha =>
      have : _ = ds := Option.some.inj e
      subst this
      exact ⟨_, _, rfl, ha, .inl ⟨rfl, hid_le O H _ _ hs⟩⟩
    | tup hs ha =>
      have : _ = ds := Option.some.inj e
      subst this
      exact ⟨_, _, rfl, ha, .inr ⟨rfl, (hid_le O H).st hs⟩⟩
    | _ => cases e
  · have : es = ds := Option.some.inj e
    subst this
    exact ⟨p, vs, rfl, r, .inl ⟨rfl, hH⟩⟩
theorem Br.ext {v : V} {d : D} (h : Br K O H v d) (e : Ext w H H') (hw : ∀ a, w.is a → a ∈ O) (wk : WOk w H) : Br K O H' v d := by
  rcases h with h | ⟨p, rfl, hp, ds, vs, e2, hH, r⟩
  · exact .inl (h.mono (e.hid hw))
  · refine .inr ⟨p, rfl, hp, ds, vs, e2, e.1 p _ (fun z => ?_) hH, r.mono (e.hid hw)⟩
    obtain ⟨t, ht, rfl⟩ := z
    rw [ht] at wk
    obtain ⟨j, _, h1, _⟩ := wk
    rw [hH] at h1
    cases h1
/-- a name's value -/
theorem Sim.var (S : Sim K w iw O0 H0 O H σ ρ) {i : Nat} {d : D} (h : getV ρ i = some d) : ∃ v, σ[i]? = some (some v) ∧ Br K O H v d ∧ (getO ρ i = none → Rp K (hid O H) v d) := by
  rcases getV_sh h with e | e
  · obtain ⟨v, e1, r⟩ := S.slot i _ e
    exact ⟨v, join_some e1, .inl r, fun _ => r⟩
  · obtain ⟨p, e1, r⟩ := S.slot i _ e
    refine ⟨.ref p, join_some e1, .inr ⟨p, rfl, r⟩, fun z => ?_⟩
    unfold getO at z
    rw [e] at z
    cases z
end
end PV

set_option maxHeartbeats 4000000
/-! PV: what the operations give, by values. -/
namespace PV
open PySem L2

/-- // by a divisor of up to two hundred bits -/
def CDivB (_ j : Int) : Prop := j ≠ 0 ∧ j.natAbs < 1606938044258990275541962092341162602522202993782792835301376
theorem op_fdivB {X : Cx} : OpR X (binaryOp .FloorDiv) (rI CDivB fun i j => .int (i.fdiv j)) := opI fun i j _ _ _ _ _ hc q => by
  have h2 : j.natAbs < 2 ^ 200 := hc.2
  exact PyProof.Rows.floordiv_int hc.1 q (.inl (PyProof.noPylong_of_log2 (Nat.lt_of_lt_of_le (PySem.Flt.log2_lt_of (by decide) h2) (by decide))))
/-- a list that was just made: nobody else holds it -/
def FrP (K : PySem.W.Frag) (O : List Addr) (H H' : Hp) (v : V) (z : D) : Prop := ∃ p vs ds, v = .ref p ∧ z = .list ds ∧ H p = none ∧ H' p = some (.lst vs) ∧ Rps K (hid (p :: O) H') vs ds
/-- a value of the datum z, the heap may have grown; f: a list is new -/
def Nw (f : Bool) (K : PySem.W.Frag) (O : List Addr) (H : Hp) (z : D) (Q : VK) : Prop := ∀ v H', Le H H' → Rp K (hid O H') v z → (f = true → isMut z = true → FrP K O H H' v z) → Q v H'
abbrev Dm (O : List Addr) (H : Hp) : Prop := ∀ p ∈ O, H p ≠ none
section
variable {f : Bool} {K : PySem.W.Frag} {O : List Addr} {H : Hp} {z : D} {Q : VK} {v : V} {d : D}
theorem Nw.same (n : Nw f K O H z Q) (r : Rp K (hid O H) v z) (h : (f && isMut z) = false := by rfl) : Q v H := n v H (Le.refl H) r fun h1 h2 => by rw [h1, h2] at h; cases h
theorem Nw.int {i : Int} (n : Nw f K O H (.int i) Q) : Q (.int i) H := n.same (.int i) (by cases f <;> rfl)
theorem Nw.bl {i : Bool} (n : Nw f K O H (.bool i) Q) : Q (.bl i) H := n.same (.bl i) (by cases f <;> rfl)
theorem Nw.str {i : Str} (n : Nw f K O H (.str i) Q) : Q (.str i) H := n.same (.str i) (by cases f <;> rfl)
theorem Nw.sameT {ds : List D} (n : Nw f K O H (.tuple ds) Q) (r : Rp K (hid O H) v (.tuple ds)) : Q v H := n.same r (by cases f <;> rfl)
theorem Nw.tup {vs : List V} {ds : List D} (n : Nw f K O H (.tuple ds) Q) (dm : Dm O H) (r : Rps K (hid O H) vs ds) {p : Addr} (hp : H p = none) : Q (.ref p) (upd H p (.tup vs)) :=
  n _ _ (Le.new hp) (.tup (.inl (.inl (hid_in (fun hm => dm p hm hp) upd_same))) (r.mono (hid_le_mono (Le.new hp)))) fun _ h => by cases h
/-- what was known ahead of a new object avoids it -/
theorem hid_cons_new {p : Addr} {o : HO} (hp : H p = none) : Le (hid O H) (hid (p :: O) (upd H p o)) := fun a u e => by
  have ha := hid_out e
  have e' := hid_le O H a u e
  have hne : a ≠ p := fun z => by rw [z, hp] at e'; cases e'
  exact hid_in (fun hm => (List.mem_cons.mp hm).elim hne ha) (by rw [upd_ne hne]; exact e')
theorem Nw.lst {vs : List V} {ds : List D} (n : Nw f K O H (.list ds) Q) (dm : Dm O H) (r : Rps K (hid O H) vs ds) {p : Addr} (hp : H p = none) : Q (.ref p) (upd H p (.lst vs)) :=
  n _ _ (Le.new hp) (.lst (hid_in (fun hm => dm p hm hp) upd_same) (r.mono (hid_le_mono (Le.new hp)))) fun _ _ => ⟨p, vs, ds, rfl, rfl, hp, upd_same, r.mono (hid_cons_new hp)⟩
theorem Br.int {i : Int} (h : Br K O H v (.int i)) : v = .int i := by
  rcases h with h | ⟨p, _, _, _, _, e, _⟩
  · cases h; rfl
  · cases e
theorem Br.bl {i : Bool} (h : Br K O H v (.bool i)) : v = .bl i := by
  rcases h with h | ⟨p, _, _, _, _, e, _⟩
  · cases h; rfl
  · cases e
theorem Br.str {i : Str} (h : Br K O H v (.str i)) : v = .str i := by
  rcases h with h | ⟨p, _, _, _, _, e, _⟩
  · cases h; rfl
  · cases e
theorem Br.non (h : Br K O H v .none) : v = .non := by
  rcases h with h | ⟨p, _, _, _, _, e, _⟩
  · cases h; rfl
  · cases e
theorem Br.lst {ds : List D} (h : Br K O H v (.list ds)) : ∃ a vs, v = .ref a ∧ Rps K (hid O H) vs ds ∧ H a = some (.lst vs) := by
  obtain ⟨a, vs, e, r, q⟩ := h.items (ds := ds) rfl
  rcases q with ⟨_, q⟩ | ⟨e2, _⟩
  · exact ⟨a, vs, e, r, q⟩
  · cases e2
theorem Br.tup {ds : List D} (h : Br K O H v (.tuple ds)) : ∃ a vs, v = .ref a ∧ Rps K (hid O H) vs ds ∧ SqT K H a vs ∧ Rp K (hid O H) v (.tuple ds) := by
  obtain ⟨a, vs, e, r, q⟩ := h.items (ds := ds) rfl
  rcases q with ⟨e2, _⟩ | ⟨_, q⟩
  · cases e2
  · refine ⟨a, vs, e, r, q, ?_⟩
    rcases h with h | ⟨p, _, _, _, _, e, _⟩
    · exact h
    · cases e
end

/-! ### shallow data -/
mutual
theorem plain_shal : ∀ (d : D) (n : Nat), shal n d = true → d.plain = true ∧ d.depth ≤ n
  | .none, n, _ => ⟨rfl, by simp [PyData.depth]⟩
  | .bool _, n, _ => ⟨rfl, by simp [PyData.depth]⟩
  | .int _, n, _ => ⟨rfl, by simp [PyData.depth]⟩
  | .str _, n, _ => ⟨rfl, by simp [PyData.depth]⟩
  | .list xs, 0, h => by simp [shal] at h
  | .list xs, n + 1, h => by
    have h' : xs.all (shal n) = true := by simpa [shal] using h
    obtain ⟨a, b⟩ := plain_shals xs n h'
    refine ⟨by simp only [PyData.plain]; exact a, by simp only [PyData.depth]; omega⟩
  | .tuple xs, 0, h => by simp [shal] at h
  | .tuple xs, n + 1, h => by
    have h' : xs.all (shal n) = true := by simpa [shal] using h
    obtain ⟨a, b⟩ := plain_shals xs n h'
    refine ⟨by simp only [PyData.plain]; exact a, by simp only [PyData.depth]; omega⟩
  | .dict _, 0, h => by simp [shal] at h
  | .dict _, n + 1, h => by simp [shal] at h
theorem plain_shals : ∀ (xs : List D) (n : Nat), xs.all (shal n) = true → PyData.plainAll xs = true ∧ PyData.depthAll xs ≤ n
  | [], _, _ => ⟨rfl, by simp [PyData.depthAll]⟩
  | x :: xs, n, h => by
    rw [List.all_cons, Bool.and_eq_true] at h
    obtain ⟨a, b⟩ := plain_shal x n h.1
    obtain ⟨c, e⟩ := plain_shals xs n h.2
    refine ⟨by simp only [PyData.plainAll]; rw [a, c]; rfl, by simp only [PyData.depthAll]; omega⟩
end

theorem tuple_mulS (l : Addr) (items : Array Value) (n : Nat) (dd : Option Addr) (sl : Array (Option Value)) (u : Tok) :
    PySem.Meets (Builtin.«tuple.__mul__» ⟨[.ref l, .int 1 u], []⟩) (fun _ R s => s.heap.get? l = some { cls := .type "tuple", dict := dd, data := .seq items n, slots := sl } ∧
      R (.ok (.ret (Value.ref l))) s) :=
  .of_wp fun prog w A R s h => by
    obtain ⟨hp, g, d, tk, os⟩ := s
    obtain ⟨hl, h⟩ := h
    have f1 := AutoSeq1.idx_int
    have c0 : (decide ((1 : Int) < -(2 ^ 63)) || decide ((1 : Int) ≥ 2 ^ 63)) = false := by decide
    have c1 : (items.isEmpty || (1 : Int) == 1) = true := by simp
    wp_walk using wpAny_loadPart' hl
    repeat (first
      | (refine wpAny_ite_false (decide_eq_false (by rw [c0]; exact Bool.false_ne_true)) ?_; wp_walk using wpAny_loadPart' hl)
      | (refine wpAny_ite_true (decide_eq_true (by rw [c1])) ?_; wp_walk using wpAny_loadPart' hl))
    exact ⟨_, rfl, h⟩
theorem op_repT1 {X : Cx} {pins : List (Addr × Obj)} {s : Shared} {σ : L2.St} {H : Hp} {l : Addr} {xs : List V} {t : Tok} {Q : VK} (I : Inv X pins σ H s) (hT : SqT X.K H l xs) (q : Q (.ref l) H) :
    wpAny (model X.prog X.w) X.A (binaryOp .Mult (.ref l) (.int 1 t)) (EP X pins σ Q) X.xe s := by
  obtain ⟨its, r, ⟨⟨cls, dd, data, sl⟩, ho, hc, n, hd⟩, hs⟩ := I.tuple hT
  simp only at hc hd
  subst hc hd
  exact wpAny_binaryOp_repeat_ref (T := "tuple") (U := "int") (by decide) ⟨_, ho, rfl⟩ (fun s' => PySem.typeIs_int s' 1 t) noFill_tuple_mul F.fills_int_mul F.slot_int_rmul repeat_tuple F.slot_int_index.lookup
    (call_meets F.slot_int_rmul (PySem.typeIs_int s 1 t) F.entry_int_rmul (F.args_int_rmul_2 _ _) (int_rmul_tuple 1 t l its.toArray n dd sl)
      ⟨ho, rfl, ⟨_, ho, rfl⟩, call_meets F.slot_tuple_mul ⟨_, ho, rfl⟩ F.entry_tuple_mul (F.args_tuple_mul_2 _ _) (tuple_mulS l its.toArray n dd sl t) ⟨ho, ⟨.ref l, H, I, rfl, q⟩⟩⟩)
section
variable {X : Cx}
/-- a two-place operation that gives the datum g a b -/
def rD2 (f : Bool) (K : PySem.W.Frag) (g : D → D → Option D) : R2 := fun x y H Q => ∃ O a b z, Dm O H ∧ Br K O H x a ∧ Br K O H y b ∧ g a b = some z ∧ Nw f K O H z Q
def binOp : Op2 → Operator
  | .add => .Add
  | .sub => .Sub
  | .mul => .Mult
  | .fdiv => .FloorDiv
  | .mod => .Mod
  | .pow => .Pow
theorem line_eq : (LINE : Nat) = sizeLine := by rw [sizeLine_eq]; rfl
theorem small_ok {i : Int} (h : small64 i = true) : -(2 ^ 64) < i ∧ i < 2 ^ 64 := by
  unfold small64 at h
  have h' := of_decide_eq_true h
  omega
theorem op_bin (o : Op2) : OpR X (binaryOp (binOp o)) (rD2 true X.K (dBin o)) := by
  intro pins s σ H x y v u Q I rx ry h
  obtain ⟨O, a, b, z, dm, ha, hb, hz, n⟩ := h
  cases o with
  | add =>
    cases a <;> cases b <;> try (simp [dBin] at hz; done)
    case int.int i j =>
      have e : PyData.int (i + j) = z := Option.some.inj hz
      subst e
      exact op_add pins s σ H x y v u Q I rx ry ⟨i, j, ha.int, hb.int, n.int⟩
    case str.str i j =>
      simp only [dBin] at hz
      split at hz
      · rename_i hl
        have e : PyData.str (i ++ j) = z := Option.some.inj hz
        subst e
        exact op_add_str pins s σ H x y v u Q I rx ry ⟨i, j, ha.str, hb.str, by rw [← line_eq]; exact hl, n.str⟩
      · cases hz
    case list.list i j =>
      simp only [dBin] at hz
      split at hz
      · rename_i hl
        have e : PyData.list (i ++ j) = z := Option.some.inj hz
        subst e
        obtain ⟨p, vs, e1, r1, h1⟩ := ha.lst
        obtain ⟨q, ws, e2, r2, h2⟩ := hb.lst
        exact op_cat pins s σ H x y v u Q I rx ry ⟨p, q, vs, ws, e1, e2, h1, h2, by rw [r1.length, r2.length, ← line_eq]; exact hl, fun l hl => n.lst dm (r1.append r2) hl⟩
      · cases hz
    case tuple.tuple i j =>
      simp only [dBin] at hz
      split at hz
      · rename_i hl
        have e : PyData.tuple (i ++ j) = z := Option.some.inj hz
        subst e
        obtain ⟨p, vs, e1, r1, h1, f1⟩ := ha.tup
        obtain ⟨q, ws, e2, r2, h2, f2⟩ := hb.tup
        refine op_catA pins s σ H x y v u Q I rx ry ⟨p, q, vs, ws, e1, e2, h1, h2, by rw [r1.length, r2.length, ← line_eq]; exact hl, fun e => ?_, fun _ e => ?_, fun _ _ l hl => n.tup dm (r1.append r2) hl⟩
        · have e' := r1.nil_iff.mp e
          subst e'
          rw [e2] at f2
          exact n.sameT f2
        · have e' := r2.nil_iff.mp e
          subst e'
          rw [e1] at f1
          rw [List.append_nil] at n
          exact n.sameT f1
      · cases hz
  | sub =>
    cases a <;> cases b <;> try (simp [dBin] at hz; done)
    case int.int i j =>
      have e : PyData.int (i - j) = z := Option.some.inj hz
      subst e
      exact op_sub pins s σ H x y v u Q I rx ry ⟨i, j, ha.int, hb.int, n.int⟩
  | mul =>
    cases a <;> cases b <;> try (simp [dBin] at hz; done)
    case int.int i j =>
      simp only [dBin] at hz
      split at hz
      · rename_i hl
        have e : PyData.int (i * j) = z := Option.some.inj hz
        subst e
        refine op_mul pins s σ H x y v u Q I rx ry ⟨i, j, ha.int, hb.int, ?_, n.int⟩
        rw [Bool.or_eq_true] at hl
        rcases hl with hl | hl
        · exact .inl (small_ok hl)
        · exact .inr (small_ok hl)
      · cases hz
    case list.int i k =>
      simp only [dBin] at hz
      split at hz
      · rename_i hl
        have e : PyData.list (List.replicate k.toNat i).flatten = z := Option.some.inj hz
        subst e
        obtain ⟨p, vs, e1, r1, h1⟩ := ha.lst
        refine op_rep pins s σ H x y v u Q I rx ry ⟨p, k, vs, e1, hb.int, h1, by omega, by omega, by rw [r1.length, ← line_eq]; exact hl.1, fun l hl => n.lst dm (r1.flat _) hl⟩
      · cases hz
    case tuple.int i k =>
      obtain ⟨p, vs, e1, r1, h1, f1⟩ := ha.tup
      simp only [dBin] at hz
      split at hz
      · rename_i hk
        subst hk
        have e : PyData.tuple i = z := Option.some.inj hz
        subst e
        have e2 := hb.int
        subst e1 e2
        obtain ⟨t, rfl⟩ := ry
        cases rx
        exact op_repT1 I h1 (n.sameT f1)
      · split at hz
        · rename_i hk hl
          have e : PyData.tuple (List.replicate k.toNat i).flatten = z := Option.some.inj hz
          subst e
          exact op_repT pins s σ H x y v u Q I rx ry ⟨p, k, vs, e1, hb.int, h1, fun e => hl.1 (r1.nil_iff.mp e), hl.2.1, hl.2.2.1, by rw [r1.length]; exact hl.2.2.2, fun l hl => n.tup dm (r1.flat _) hl⟩
        · cases hz
  | fdiv =>
    cases a <;> cases b <;> try (simp [dBin] at hz; done)
    case int.int i j =>
      simp only [dBin] at hz
      split at hz
      · rename_i hl
        have e : PyData.int (i.fdiv j) = z := Option.some.inj hz
        subst e
        exact op_fdivB pins s σ H x y v u Q I rx ry ⟨i, j, ha.int, hb.int, hl, n.int⟩
      · cases hz
  | mod =>
    cases a <;> cases b <;> try (simp [dBin] at hz; done)
    case int.int i j =>
      simp only [dBin] at hz
      split at hz
      · rename_i hl
        have e : PyData.int (i.fmod j) = z := Option.some.inj hz
        subst e
        exact op_modN pins s σ H x y v u Q I rx ry ⟨i, j, ha.int, hb.int, hl, n.int⟩
      · cases hz
  | pow =>
    cases a <;> cases b <;> try (simp [dBin] at hz; done)
    case int.int i j =>
      simp only [dBin] at hz
      split at hz
      · rename_i hl
        have e : PyData.int (i ^ j.toNat) = z := Option.some.inj hz
        subst e
        exact op_pow pins s σ H x y v u Q I rx ry ⟨i, j, ha.int, hb.int, hl, n.int⟩
      · cases hz

/-! ### comparisons -/
def cmOp : Cm → CmpOp
  | .eq => .Eq
  | .ne => .NotEq
  | .lt => .Lt
  | .le => .LtE
  | .gt => .Gt
  | .ge => .GtE
  | .is_ => .Is
  | .isnot => .IsNot
  | .in_ => .In
  | .notin => .NotIn
/-- a comparison of two data: a truth -/
def rC2 (K : PySem.W.Frag) (g : D → D → Option Bool) : R2 := fun x y H Q => ∃ O a b z, Br K O H x a ∧ Br K O H y b ∧ g a b = some z ∧ Q (.bl z) H
theorem room_le {A : Around} {k n : Nat} (hr : Room k A) (h : n ≤ 100) : A.units + n < cLine := by have := hr.un; omega
theorem Br.reads {pins : List (Addr × Obj)} {σ : L2.St} {H : Hp} {s : Shared} {O : List Addr} {x : V} {a : D} {v : Value} (I : Inv X pins σ H s) (h : Br X.K O H x a) (r : RelV x v) : ∃ as, Reads s.heap v a as := h.rp.reads I r
theorem isN_eq {K : PySem.W.Frag} {O : List Addr} {H : Hp} {x : V} {a : D} (h : Br K O H x a) : decide (x = .non) = isN a := by
  cases a with
  | none => rw [h.non]; rfl
  | bool b => rw [h.bl]; rfl
  | int i => rw [h.int]; rfl
  | str i => rw [h.str]; rfl
  | list ds => obtain ⟨p, vs, e, _⟩ := h.lst; rw [e]; rfl
  | tuple ds => obtain ⟨p, vs, e, _⟩ := h.tup; rw [e]; rfl
  | dict ds =>
    rcases h with h | ⟨p, _, _, _, _, e, _⟩
    · cases h
    · cases e
theorem ord_ok {a b : D} (h : cmpOk a b = true) : a.plain = true ∧ a.depth ≤ 20 ∧ W.alike a b = true ∧ a ≠ .none := by
  unfold cmpOk sh at h
  rw [Bool.and_eq_true, Bool.and_eq_true] at h
  obtain ⟨h1, h2, h3⟩ := h
  obtain ⟨p1, p2⟩ := plain_shal a 20 h1
  refine ⟨p1, p2, h2, ?_⟩
  rintro rfl
  simp [isN] at h3
/-- is, is not with a truth: another thing is none -/
theorem is_bool {pins : List (Addr × Obj)} {σ : L2.St} {H : Hp} {s : Shared} {O : List Addr} {x : V} {a : D} {v : Value} {c : Bool} (I : Inv X pins σ H s) (h : Br X.K O H x a) (r : RelV x v) (e : isB c a = false) : v ≠ .bool c := by
  rintro rfl
  have q := r.abs
  have q' : some (V.bl c) = some x := q
  cases a with
  | bool b =>
    rw [h.bl] at q'
    cases q'
    simp [isB] at e
  | none => rw [h.non] at q'; cases q'
  | int i => rw [h.int] at q'; cases q'
  | str i => rw [h.str] at q'; cases q'
  | list ds => obtain ⟨p, vs, e, _⟩ := h.lst; rw [e] at q'; cases q'
  | tuple ds => obtain ⟨p, vs, e, _⟩ := h.tup; rw [e] at q'; cases q'
  | dict ds =>
    rcases h with h | ⟨p, _, _, _, _, e, _⟩
    · cases h
    · cases e
theorem is_plain {K : PySem.W.Frag} {O : List Addr} {H : Hp} {x : V} {a : D} {v : Value} {c : Bool} (h : Br K O H x a) (r : RelV x v) : plainIs v (.bool c) = true := by
  cases a with
  | bool b => rw [h.bl] at r; cases (show v = _ from r); rfl
  | none => rw [h.non] at r; cases (show v = _ from r); rfl
  | int i => rw [h.int] at r; obtain ⟨t, rfl⟩ := r; rfl
  | str i => rw [h.str] at r; obtain ⟨t, rfl⟩ := r; rfl
  | list ds => obtain ⟨p, vs, e, _⟩ := h.lst; rw [e] at r; cases (show v = _ from r); rfl
  | tuple ds => obtain ⟨p, vs, e, _⟩ := h.tup; rw [e] at r; cases (show v = _ from r); rfl
  | dict ds =>
    rcases h with h | ⟨p, _, _, _, _, e, _⟩
    · cases h
    · cases e
theorem isB_true {a : D} {c : Bool} (h : isB c a = true) : a = .bool c := by
  cases a <;> simp [isB] at h
  rw [h]
theorem op_cmp {k : Nat} (hr : Room k X.A) (c : Cm) : OpR X (compareOp (cmOp c)) (rC2 X.K (dCmp c)) := by
  intro pins s σ H x y v u Q I rx ry h
  obtain ⟨O, a, b, z, ha, hb, hz, n⟩ := h
  obtain ⟨as, ra⟩ := ha.reads I rx
  obtain ⟨bs, rb⟩ := hb.reads I ry
  have fin : ∀ {w : Bool}, w = z → EP X pins σ Q (.bool w) s := fun e => by subst e; exact ⟨.bl _, H, I, rfl, n⟩
  cases c with
  | eq =>
    simp only [dCmp] at hz
    split at hz
    · rename_i hl
      rw [Bool.and_eq_true] at hl
      obtain ⟨p1, p2⟩ := plain_shal a 20 hl.1
      obtain ⟨p3, p4⟩ := plain_shal b 20 hl.2
      exact PySem.SeqAt.eq_plain ra rb p1 p3 (room_le hr (by omega)) (fin (Option.some.inj hz))
    · cases hz
  | ne =>
    simp only [dCmp] at hz
    split at hz
    · rename_i hl
      rw [Bool.and_eq_true] at hl
      obtain ⟨p1, p2⟩ := plain_shal a 20 hl.1
      obtain ⟨p3, p4⟩ := plain_shal b 20 hl.2
      exact PySem.SeqAt.ne_plain ra rb p1 p3 (room_le hr (by omega)) (fin (Option.some.inj hz))
    · cases hz
  | lt =>
    simp only [dCmp, dlt] at hz
    split at hz
    · rename_i hl
      obtain ⟨p1, p2, p3, p4⟩ := ord_ok hl
      exact PySem.W.lt_data ra rb p3 p4 (room_le hr (by omega)) (fin (Option.some.inj hz))
    · cases hz
  | gt =>
    simp only [dCmp] at hz
    split at hz
    · rename_i hl
      obtain ⟨p1, p2, p3, p4⟩ := ord_ok hl
      exact PySem.W.gt_data ra rb p3 p4 (room_le hr (by omega)) (fin (Option.some.inj hz))
    · cases hz
  | le =>
    simp only [dCmp] at hz
    split at hz
    · rename_i hl
      obtain ⟨p1, p2, p3, p4⟩ := ord_ok hl
      exact PySem.W.le_data ra rb p3 p4 (room_le hr (by omega)) (fin (Option.some.inj hz))
    · cases hz
  | ge =>
    simp only [dCmp] at hz
    split at hz
    · rename_i hl
      obtain ⟨p1, p2, p3, p4⟩ := ord_ok hl
      exact PySem.W.ge_data ra rb p3 p4 (room_le hr (by omega)) (fin (Option.some.inj hz))
    · cases hz
  | is_ =>
    cases b <;> try (simp [dCmp] at hz; done)
    case none =>
      refine op_isN pins s σ H x y v u Q I rx ry ⟨hb.non, ?_⟩
      rw [isN_eq ha]
      have e : isN a = z := Option.some.inj hz
      rw [e]
      exact n
    case bool c =>
      have e : isB c a = z := Option.some.inj hz
      rw [hb.bl] at ry
      cases (show u = Value.bool c from ry)
      cases hc : isB c a with
      | true =>
        have e2 := isB_true hc
        subst e2
        rw [ha.bl] at rx
        cases (show v = Value.bool c from rx)
        exact PySem.wpAny_is_self rfl (fin (by rw [← e, hc]))
      | false => exact PySem.wpAny_is_other (is_plain ha rx) (is_bool I ha rx hc) (fin (by rw [← e, hc]))
  | isnot =>
    cases b <;> try (simp [dCmp] at hz; done)
    case none =>
      refine op_notN pins s σ H x y v u Q I rx ry ⟨hb.non, ?_⟩
      rw [isN_eq ha]
      have e : (!isN a) = z := Option.some.inj hz
      rw [e]
      exact n
    case bool c =>
      have e : (!isB c a) = z := Option.some.inj hz
      rw [hb.bl] at ry
      cases (show u = Value.bool c from ry)
      cases hc : isB c a with
      | true =>
        have e2 := isB_true hc
        subst e2
        rw [ha.bl] at rx
        cases (show v = Value.bool c from rx)
        exact PySem.wpAny_isNot_self rfl (fin (by rw [← e, hc]; rfl))
      | false => exact PySem.wpAny_isNot_other (is_plain ha rx) (is_bool I ha rx hc) (fin (by rw [← e, hc]; rfl))
  | in_ =>
    cases b <;> try (simp [dCmp, dIn] at hz; done)
    case list xs =>
      simp only [dCmp, dIn] at hz
      split at hz
      · rename_i hl
        rw [Bool.and_eq_true] at hl
        obtain ⟨p1, p2⟩ := plain_shal a 20 hl.1
        obtain ⟨p3, p4⟩ := plain_shals xs 20 hl.2
        exact PySem.SeqAt.in_list_data rb ra p3 p1 (by have := room_le hr (n := 21) (by omega); omega) (fin (Option.some.inj hz))
      · cases hz
    case tuple xs =>
      simp only [dCmp, dIn] at hz
      split at hz
      · rename_i hl
        rw [Bool.and_eq_true] at hl
        obtain ⟨p1, p2⟩ := plain_shal a 20 hl.1
        obtain ⟨p3, p4⟩ := plain_shals xs 20 hl.2
        exact PySem.SeqAt.in_tuple_data rb ra p3 p1 (by have := room_le hr (n := 21) (by omega); omega) (fin (Option.some.inj hz))
      · cases hz
    case dict xs =>
      rcases hb with h | ⟨p, _, _, _, _, e, _⟩
      · cases h
      · cases e
  | notin =>
    cases b <;> try (simp [dCmp, dIn] at hz; done)
    case list xs =>
      simp only [dCmp, dIn] at hz
      split at hz
      · rename_i hl
        rw [Bool.and_eq_true] at hl
        obtain ⟨p1, p2⟩ := plain_shal a 20 hl.1
        obtain ⟨p3, p4⟩ := plain_shals xs 20 hl.2
        exact PySem.SeqAt.notIn_list_data rb ra p3 p1 (by have := room_le hr (n := 21) (by omega); omega) (fin (Option.some.inj hz))
      · cases hz
    case tuple xs =>
      simp only [dCmp, dIn] at hz
      split at hz
      · rename_i hl
        rw [Bool.and_eq_true] at hl
        obtain ⟨p1, p2⟩ := plain_shal a 20 hl.1
        obtain ⟨p3, p4⟩ := plain_shals xs 20 hl.2
        exact PySem.SeqAt.notIn_tuple_data rb ra p3 p1 (by have := room_le hr (n := 21) (by omega); omega) (fin (Option.some.inj hz))
      · cases hz
    case dict xs =>
      rcases hb with h | ⟨p, _, _, _, _, e, _⟩
      · cases h
      · cases e
end
end PV

set_option maxHeartbeats 4000000
/-! PV: subscripts, slices, built-in functions. -/
namespace PV
open PySem L2 PyProof.Rows

section
variable {K : PySem.W.Frag} {O : List Addr} {H : Hp}
theorem Rps.at_ {vs : List V} {ds : List D} {i : Int} {d : D} (h : Rps K H vs ds) (e : atI ds i = some d) : ∃ v, atI vs i = some v ∧ Rp K H v d := by
  unfold atI at e ⊢
  rw [h.length]
  cases q : ixN ds.length i with
  | none => rw [q] at e; cases e
  | some j =>
    rw [q] at e
    exact h.getD e
end
section
variable {X : Cx}
theorem op_ix : IxR X (rD2 false X.K dIx) := by
  intro value slice pins s σ H x y v u Q I rx ry h hs
  obtain ⟨O, a, b, z, dm, ha, hb, hz, n⟩ := h
  cases a <;> cases b <;> try (simp [dIx] at hz; done)
  case list.int xs i =>
    obtain ⟨p, vs, e1, r1, h1⟩ := ha.lst
    obtain ⟨w, e2, r2⟩ := r1.at_ (show atI xs i = some z from hz)
    exact ix_list value slice pins s σ H x y v u Q I rx ry ⟨p, vs, i, w, e1, hb.int, .inl (.inl h1), e2, n.same r2⟩ hs
  case tuple.int xs i =>
    obtain ⟨p, vs, e1, r1, h1, _⟩ := ha.tup
    obtain ⟨w, e2, r2⟩ := r1.at_ (show atI xs i = some z from hz)
    exact ix_tup value slice pins s σ H x y v u Q I rx ry ⟨p, vs, i, w, e1, hb.int, h1, e2, n.same r2⟩ hs
  case str.int xs i =>
    simp only [dIx] at hz
    split at hz
    · rename_i hl
      cases q : atI xs.cps.toList i with
      | none => rw [q] at hz; cases hz
      | some c =>
        rw [q] at hz
        have e : PyData.str ⟨#[c]⟩ = z := Option.some.inj hz
        subst e
        exact ix_str value slice pins s σ H x y v u Q I rx ry ⟨xs, i, c, ha.str, hb.int, by rw [← line_eq]; exact hl, q, n.str⟩ hs
    · cases hz
  all_goals
    rcases ha with h | ⟨p, _, _, _, _, e, _⟩
    · cases h
    · cases e
/-- a slice -/
def rSlD (K : PySem.W.Frag) : V → Option Int → Option Int → Hp → VK → Prop := fun x lo hi H Q => ∃ O a z, Dm O H ∧ Br K O H x a ∧ dSl a lo hi = some z ∧ Nw true K O H z Q
theorem cut_whole {α : Type} {xs : List α} {lo hi : Option Int} (h : HT.sIx xs.length 0 lo = 0 ∧ HT.sIx xs.length xs.length hi = xs.length) : cut xs lo hi = xs := by
  unfold cut
  rw [h.1, h.2]
  simp
theorem op_sl : SlR X (rSlD X.K) := by
  intro pins s σ H x v vl vu lo hi sl Q I rx hs pl pu h
  obtain ⟨O, a, z, dm, ha, hz, n⟩ := h
  cases a <;> try (simp [dSl] at hz; done)
  case list xs =>
    have e : PyData.list (cut xs lo hi) = z := Option.some.inj hz
    subst e
    obtain ⟨p, vs, e1, r1, h1⟩ := ha.lst
    exact sl_list pins s σ H x v vl vu lo hi sl Q I rx hs pl pu ⟨p, vs, e1, .inl (.inl h1), fun l hl => n.lst dm (r1.cut lo hi) hl⟩
  case tuple xs =>
    have e : PyData.tuple (cut xs lo hi) = z := Option.some.inj hz
    subst e
    obtain ⟨p, vs, e1, r1, h1, f1⟩ := ha.tup
    refine sl_tupA pins s σ H x v vl vu lo hi sl Q I rx hs pl pu ⟨p, vs, e1, h1, fun hw => ?_, fun _ l hl => n.tup dm (r1.cut lo hi) hl⟩
    rw [r1.length] at hw
    rw [cut_whole hw] at n
    rw [e1] at f1
    exact n.sameT f1

/-! ### built-in functions -/
def biF : Bi → Bool
  | .list => true
  | .sorted => true
  | .dict => true
  | .sset => true
  | _ => false
def rD1 (K : PySem.W.Frag) (b : Bi) : List V → Hp → VK → Prop := fun xs H Q => ∃ O x a z, xs = [x] ∧ Dm O H ∧ Br K O H x a ∧ dBi b a = some z ∧ Nw (biF b) K O H z Q
def biV : Bi → Value
  | .len => .builtin "len"
  | .abs => .builtin "abs"
  | .sum => .builtin "sum"
  | .any => .builtin "any"
  | .all => .builtin "all"
  | .sorted => .builtin "sorted"
  | .min => .builtin "min"
  | .max => .builtin "max"
  | .tuple => .type "tuple"
  | .list => .type "list"
  | .int => .type "int"
  | .str => .type "str"
  | .dict => .type "dict"
  | .sset => .builtin "sorted"
  | .lset => .builtin "len"
/-- the ones that are served -/
def biOk : Bi → Bool
  | .str => false
  | .dict => false
  | .sset => false
  | .lset => false
  | _ => true
theorem bi_len : CallR X (.builtin "len") (rD1 X.K .len) := by
  intro pins s σ H xs us Q I r h
  obtain ⟨O, x, a, z, rfl, dm, ha, hz, n⟩ := h
  cases a <;> try (simp [dBi] at hz; done)
  case list ds =>
    have e : PyData.int ds.length = z := Option.some.inj hz
    subst e
    obtain ⟨p, vs, e1, r1, h1⟩ := ha.lst
    refine call_len_seq pins s σ H _ us Q I r ⟨p, vs, by rw [e1], .inl (.inl (.inl h1)), ?_⟩
    rw [r1.length]
    exact n.int
  case tuple ds =>
    have e : PyData.int ds.length = z := Option.some.inj hz
    subst e
    obtain ⟨p, vs, e1, r1, h1, _⟩ := ha.tup
    refine call_len_seq pins s σ H _ us Q I r ⟨p, vs, by rw [e1], .inr h1, ?_⟩
    rw [r1.length]
    exact n.int
  case str t =>
    simp only [dBi] at hz
    split at hz
    · rename_i hl
      have e : PyData.int t.length = z := Option.some.inj hz
      subst e
      exact call_len_str pins s σ H _ us Q I r ⟨t, by rw [ha.str], by rw [← line_eq]; exact hl, n.int⟩
    · cases hz
  case dict =>
    rcases ha with h | ⟨p, _, _, _, _, e, _⟩
    · cases h
    · cases e
theorem bi_abs : CallR X (.builtin "abs") (rD1 X.K .abs) := by
  intro pins s σ H xs us Q I r h
  obtain ⟨O, x, a, z, rfl, dm, ha, hz, n⟩ := h
  cases a <;> try (simp [dBi] at hz; done)
  case int i =>
    have e : PyData.int (if i < 0 then -i else i) = z := Option.some.inj hz
    subst e
    exact call_abs pins s σ H _ us Q I r ⟨i, by rw [ha.int], n.int⟩
theorem items_some {d : D} {ds : List D} (e : items d = some ds) : d = .list ds ∨ d = .tuple ds := by
  cases d <;> simp [items] at e
  · subst e; exact .inl rfl
  · subst e; exact .inr rfl
theorem sum_tup {pins : List (Addr × Obj)} {s : Shared} {σ : L2.St} {H : Hp} {a : Addr} {ns : List Int} {Q : VK} (hc : X.calm = true) (I : Inv X pins σ H s) (hT : SqT X.K H a (ns.map V.int)) (q : Q (.int ns.sum) H) :
    wpAny (model X.prog X.w) X.A (call (.builtin "sum") [.ref a]) (EP X pins σ Q) X.xe s := by
  obtain ⟨its, rv, pl, hz⟩ := I.tuple hT
  have hi : PyProof.Rows.IntsAre its ns := rv.ints
  obtain ⟨xs, e⟩ := hi.allInts.items
  have hn : PySem.numsOf (PySem.intItems xs).toList = ns := by rw [← e]; exact hi.numsOf
  rw [nums_intItems] at hn
  rw [e] at pl
  refine PySem.W.ktm_sumG (I.ok.hd hc) pl fun h' tk t' hk => ?_
  refine ⟨.int ns.sum, H, I.kept hk, ⟨t', ?_⟩, q⟩
  rw [preSum_eq, List.take_of_length_le (by simp), hn]
theorem bi_sum (hc : X.calm = true) : CallR X (.builtin "sum") (rD1 X.K .sum) := by
  intro pins s σ H xs us Q I r h
  obtain ⟨O, x, a, z, rfl, dm, ha, hz, n⟩ := h
  simp only [dBi] at hz
  cases hi : items a with
  | none => rw [hi] at hz; cases hz
  | some ds =>
    rw [hi] at hz
    cases hn : ints? ds with
    | none => simp [hn] at hz
    | some ns =>
      have e : PyData.int ns.sum = z := by simpa [hn] using hz
      subst e
      obtain ⟨p, vs, e1, r1, q⟩ := ha.items hi
      have e2 := r1.ints hn
      subst e1 e2
      rcases q with ⟨_, q⟩ | ⟨_, q⟩
      · exact cr_sum hc pins s σ H _ us Q I r ⟨p, ns, rfl, .inl (.inl q), n.int⟩
      · rw [Vals.ref1 r]
        exact sum_tup hc I q n.int
theorem bi_any (hc : X.calm = true) : CallR X (.builtin "any") (rD1 X.K .any) := by
  intro pins s σ H xs us Q I r h
  obtain ⟨O, x, a, z, rfl, dm, ha, hz, n⟩ := h
  cases a <;> try (simp [dBi] at hz; done)
  case list ds =>
    simp only [dBi] at hz
    cases hn : bools? ds with
    | none => rw [hn] at hz; cases hz
    | some ns =>
      rw [hn] at hz
      have e : PyData.bool (ns.any id) = z := Option.some.inj hz
      subst e
      obtain ⟨p, vs, e1, r1, q⟩ := ha.lst
      have e2 := r1.bools hn
      subst e1 e2
      exact cr_any hc pins s σ H _ us Q I r ⟨p, ns, rfl, .inl (.inl q), n.bl⟩
theorem bi_all (hc : X.calm = true) : CallR X (.builtin "all") (rD1 X.K .all) := by
  intro pins s σ H xs us Q I r h
  obtain ⟨O, x, a, z, rfl, dm, ha, hz, n⟩ := h
  cases a <;> try (simp [dBi] at hz; done)
  case list ds =>
    simp only [dBi] at hz
    cases hn : bools? ds with
    | none => rw [hn] at hz; cases hz
    | some ns =>
      rw [hn] at hz
      have e : PyData.bool (ns.all id) = z := Option.some.inj hz
      subst e
      obtain ⟨p, vs, e1, r1, q⟩ := ha.lst
      have e2 := r1.bools hn
      subst e1 e2
      exact cr_all hc pins s σ H _ us Q I r ⟨p, ns, rfl, .inl (.inl q), n.bl⟩
theorem bi_tuple : CallR X (.type "tuple") (rD1 X.K .tuple) := by
  intro pins s σ H xs us Q I r h
  obtain ⟨O, x, a, z, rfl, dm, ha, hz, n⟩ := h
  simp only [dBi] at hz
  cases hi : items a with
  | none => rw [hi] at hz; cases hz
  | some ds =>
    rw [hi] at hz
    have e : PyData.tuple ds = z := Option.some.inj hz
    subst e
    obtain ⟨p, vs, e1, r1, q⟩ := ha.items hi
    subst e1
    rcases q with ⟨_, q⟩ | ⟨e, q⟩
    · exact call_tuple_of pins s σ H _ us Q I r ⟨p, vs, rfl, .inl ⟨.inl (.inl q), fun l hl => n.tup dm r1 hl⟩⟩
    · subst e
      exact call_tuple_of pins s σ H _ us Q I r ⟨p, vs, rfl, .inr ⟨q, n.sameT ha.tup.choose_spec.choose_spec.2.2.2⟩⟩
theorem bi_list : CallR X (.type "list") (rD1 X.K .list) := by
  intro pins s σ H xs us Q I r h
  obtain ⟨O, x, a, z, rfl, dm, ha, hz, n⟩ := h
  have nd : ∀ kvs, a ≠ .dict kvs := by
    rintro kvs rfl
    rcases ha with h | ⟨p, _, _, _, _, e, _⟩
    · cases h
    · cases e
  have hz' : (items a).map PyData.list = some z := by
    cases a <;> first | exact hz | exact absurd rfl (nd _)
  cases hi : items a with
  | none => rw [hi] at hz'; cases hz'
  | some ds =>
    rw [hi] at hz'
    have e : PyData.list ds = z := Option.some.inj hz'
    subst e
    obtain ⟨p, vs, e1, r1, q⟩ := ha.items hi
    subst e1
    refine call_list_of pins s σ H _ us Q I r ⟨p, vs, rfl, ?_, fun l hl => n.lst dm r1 hl⟩
    rcases q with ⟨_, q⟩ | ⟨e, q⟩
    · exact .inl (.inl (.inl q))
    · exact .inr q
theorem bi_int : CallR X (.type "int") (rD1 X.K .int) := by
  intro pins s σ H xs us Q I r h
  obtain ⟨O, x, a, z, rfl, dm, ha, hz, n⟩ := h
  cases a <;> try (simp [dBi] at hz; done)
  case int i =>
    have e : PyData.int i = z := Option.some.inj hz
    subst e
    exact call_int1 pins s σ H _ us Q I r (.inl ⟨i, by rw [ha.int], n.int⟩)
  case bool i =>
    have e : PyData.int (if i then 1 else 0) = z := Option.some.inj hz
    subst e
    exact call_int1 pins s σ H _ us Q I r (.inr ⟨i, by rw [ha.bl], n.int⟩)
/-- the item of a list that reads as a datum of it -/
theorem item_of {pins : List (Addr × Obj)} {s : Shared} {σ : L2.St} {H : Hp} {O : List Addr} {vs : List V} {ds : List D} {its : List Value} {i : Nat} {v : Value} {h' : Heap} {m : D} {bs : List Addr} (I : Inv X pins σ H s) (r1 : Rps X.K (hid O H) vs ds) (rv : Vals vs its)
    (hv : its[i]? = some v) (hm : Reads h' v m bs) (hk : ∀ b o, s.heap.get? b = some o → h'.get? b = some o) (hs : ∀ d ∈ ds, d.plain = true) : ∃ x, RelV x v ∧ Rp X.K (hid O H) x m := by
  have hl := rv.length
  have hi : i < its.length := (List.getElem?_eq_some_iff.mp hv).1
  have e : vs[i]? = some vs[i] := List.getElem?_eq_getElem (by omega)
  obtain ⟨u, e2, ru⟩ := rv.get e
  rw [hv] at e2
  cases e2
  obtain ⟨d, e3, rd⟩ := r1.get e
  obtain ⟨as, rr⟩ := (rd.mono (hid_le O H)).reads I ru
  have e4 := PySem.SeqAt.plain_unique d m v as bs (hs d (List.mem_of_getElem? e3)) (PyProof.Rows.Reads.keeps hk rr) hm
  subst e4
  exact ⟨_, ru, rd⟩
theorem shs_plain {xs : List D} (h : shs xs = true) : (∀ d ∈ xs, d.plain = true) ∧ PyData.depthAll xs ≤ 20 ∧ ∀ d ∈ xs, d.depth ≤ 20 := by
  unfold shs at h
  have h' := List.all_eq_true.mp h
  exact ⟨fun d hd => (plain_shal d 20 (h' d hd)).1, (plain_shals xs 20 h).2, fun d hd => (plain_shal d 20 (h' d hd)).2⟩
theorem allAlike_of {xs : List D} (h : allAlike xs = true) : ∀ x ∈ xs, ∀ y ∈ xs, W.alike x y = true := fun x hx y hy => by
  unfold allAlike at h
  exact List.all_eq_true.mp (List.all_eq_true.mp h x hx) y hy
theorem alikeAll_of {xs : List D} (h : allAlike xs = true) (hn : xs.all (fun d => !isN d) = true) : PySem.W.AlikeAll xs := ⟨allAlike_of h, fun x hx e => by
  subst e
  have := List.all_eq_true.mp hn _ hx
  simp [isN] at this⟩
theorem bi_min {k : Nat} (hr : Room k X.A) (hc : X.calm = true) : CallR X (.builtin "min") (rD1 X.K .min) := by
  intro pins s σ H xs us Q I r h
  obtain ⟨O, x, a, z, rfl, dm, ha, hz, n⟩ := h
  simp only [dBi] at hz
  cases hi : items a with
  | none => rw [hi] at hz; cases hz
  | some ds =>
    rw [hi] at hz
    have hz : dMin ds = some z := hz
    obtain ⟨p, vs, e1, r1, q⟩ := ha.items hi
    cases ds with
    | nil => simp [dMin] at hz
    | cons d ds =>
      simp only [dMin] at hz
      split at hz
      · rename_i hl
        rw [Bool.and_eq_true, Bool.and_eq_true] at hl
        obtain ⟨h1, h2, h3⟩ := hl
        obtain ⟨p1, p2, _⟩ := shs_plain h1
        have e : W.minD d ds = z := Option.some.inj hz
        subst e1
        rw [Vals.ref1 r]
        rcases q with ⟨_, q⟩ | ⟨_, q⟩
        · obtain ⟨its, rv, pl, hzz⟩ := I.list (.inl (.inl q))
          obtain ⟨as, ra⟩ := (r1.mono (hid_le O H)).reads I rv
          refine PySem.W.min_list_data (I.ok.hd hc) pl.isList (by simpa using ra) (alikeAll_of h2 h3) (by have := room_le hr (n := 21) (by omega); omega) fun i v h' tk bs hv hm hk => ?_
          rw [e] at hm
          obtain ⟨y, ry, rp⟩ := item_of I r1 rv (by simpa using hv) hm hk p1
          exact ⟨y, H, I.kept hk, ry, n.same rp⟩
        · obtain ⟨its, rv, pl, hzz⟩ := I.tuple q
          obtain ⟨as, ra⟩ := (r1.mono (hid_le O H)).reads I rv
          refine PySem.W.min_tuple_data (I.ok.hd hc) pl (by simpa using ra) (alikeAll_of h2 h3) (by have := room_le hr (n := 21) (by omega); omega) fun i v h' tk bs hv hm hk => ?_
          rw [e] at hm
          obtain ⟨y, ry, rp⟩ := item_of I r1 rv (by simpa using hv) hm hk p1
          exact ⟨y, H, I.kept hk, ry, n.same rp⟩
      · cases hz
theorem bi_max {k : Nat} (hr : Room k X.A) (hc : X.calm = true) : CallR X (.builtin "max") (rD1 X.K .max) := by
  intro pins s σ H xs us Q I r h
  obtain ⟨O, x, a, z, rfl, dm, ha, hz, n⟩ := h
  simp only [dBi] at hz
  cases hi : items a with
  | none => rw [hi] at hz; cases hz
  | some ds =>
    rw [hi] at hz
    have hz : dMax ds = some z := hz
    obtain ⟨p, vs, e1, r1, q⟩ := ha.items hi
    cases ds with
    | nil => simp [dMax] at hz
    | cons d ds =>
      simp only [dMax] at hz
      split at hz
      · rename_i hl
        rw [Bool.and_eq_true, Bool.and_eq_true] at hl
        obtain ⟨h1, h2, h3⟩ := hl
        obtain ⟨p1, p2, _⟩ := shs_plain h1
        have e : W.maxD d ds = z := Option.some.inj hz
        subst e1
        rw [Vals.ref1 r]
        rcases q with ⟨_, q⟩ | ⟨_, q⟩
        · obtain ⟨its, rv, pl, hzz⟩ := I.list (.inl (.inl q))
          obtain ⟨as, ra⟩ := (r1.mono (hid_le O H)).reads I rv
          refine PySem.W.max_list_data (I.ok.hd hc) pl.isList (by simpa using ra) (alikeAll_of h2 h3) (by have := room_le hr (n := 21) (by omega); omega) fun i v h' tk bs hv hm hk => ?_
          rw [e] at hm
          obtain ⟨y, ry, rp⟩ := item_of I r1 rv (by simpa using hv) hm hk p1
          exact ⟨y, H, I.kept hk, ry, n.same rp⟩
        · obtain ⟨its, rv, pl, hzz⟩ := I.tuple q
          obtain ⟨as, ra⟩ := (r1.mono (hid_le O H)).reads I rv
          refine PySem.W.max_tuple_data (I.ok.hd hc) pl (by simpa using ra) (alikeAll_of h2 h3) (by have := room_le hr (n := 21) (by omega); omega) fun i v h' tk bs hv hm hk => ?_
          rw [e] at hm
          obtain ⟨y, ry, rp⟩ := item_of I r1 rv (by simpa using hv) hm hk p1
          exact ⟨y, H, I.kept hk, ry, n.same rp⟩
      · cases hz
theorem vals_out {K : PySem.W.Frag} {O : List Addr} {H : Hp} : ∀ {out : List Value} {ds : List D}, PySem.W.EachIs (fun v d => ∃ x, RelV x v ∧ Rp K (hid O H) x d) out ds → ∃ vs, Vals vs out ∧ Rps K (hid O H) vs ds
  | _, _, .nil => ⟨[], .nil, .nil⟩
  | _, _, .cons ⟨x, r, q⟩ t => by
    obtain ⟨vs, h1, h2⟩ := vals_out t
    exact ⟨x :: vs, .cons r h1, .cons q h2⟩
theorem each_in {K : PySem.W.Frag} {O : List Addr} {H : Hp} : ∀ {vs : List V} {its : List Value} {ds : List D}, Vals vs its → Rps K (hid O H) vs ds → PySem.W.EachIs (fun v d => ∃ x, RelV x v ∧ Rp K (hid O H) x d) its ds
  | _, _, _, .nil, .nil => .nil
  | _, _, _, .cons r t, .cons q u => .cons ⟨_, r, q⟩ (each_in t u)
theorem tupNE_of {d : D} (h : tupNE d = true) : ∃ x r, d = .tuple (x :: r) := by
  cases d <;> simp [tupNE] at h
  rename_i xs
  cases xs with
  | nil => simp [tupNE] at h
  | cons x r => exact ⟨x, r, rfl⟩
theorem sortable_of {xs : List D} (h : sortable xs = true) : PySem.W.Sortable xs := by
  unfold sortable at h
  rw [Bool.or_eq_true] at h
  rcases h with h | h
  · exact .inl fun d hd => tupNE_of (List.all_eq_true.mp h d hd)
  · refine .inr fun d hd => ?_
    have q := List.all_eq_true.mp h d hd
    rw [Bool.and_eq_true] at q
    refine ⟨?_, ?_⟩
    · rintro rfl
      simp [isN] at q
    · rintro xs rfl
      simp [isTup] at q
mutual
theorem alike_refl_plain : ∀ d : D, d.plain = true → W.alike d d = true
  | .none, _ => by simp [W.alike]
  | .bool _, _ => by simp [W.alike]
  | .int _, _ => by simp [W.alike]
  | .str _, _ => by simp [W.alike]
  | .list xs, h => by
    simp only [W.alike]
    exact alikes_refl_plain xs (by simpa [PyData.plain] using h)
  | .tuple xs, h => by
    simp only [W.alike]
    exact alikes_refl_plain xs (by simpa [PyData.plain] using h)
  | .dict _, h => by simp [PyData.plain] at h
theorem alikes_refl_plain : ∀ xs : List D, PyData.plainAll xs = true → W.alikeAll xs xs = true
  | [], _ => by simp [W.alikeAll]
  | x :: xs, h => by
    have h' : x.plain = true ∧ PyData.plainAll xs = true := by simpa [PyData.plainAll] using h
    simp only [W.alikeAll, Bool.and_eq_true]
    exact ⟨alike_refl_plain x h'.1, alikes_refl_plain xs h'.2⟩
end
/-- one item, or none, is sorted whatever it is -/
theorem sorts_one {prog : Program} {w : World} {A : Around} {s : Shared} {vs : List Value} {ds : List D} (e : PySem.W.EachIs (fun v d => ∃ as, Reads s.heap v d as) vs ds) (hal : PySem.W.AllAlike ds) (hn : ∀ d ∈ ds, d ≠ .none) (h1 : ds.length ≤ 1) (hu : ∀ d, d ∈ ds → A.units + d.depth < cLine) :
    PySem.W.SortsAt prog w A s (PySem.W.dataKind s.heap ds) vs := by
  have hl := e.length
  refine ⟨fun v hv => ?_, general', fun E x y a b Q ha hb hq => ?_, fun h2 => by omega⟩
  · obtain ⟨d, hd, as, r⟩ := e.left v hv
    exact ⟨_, PySem.W.dataKind_some hal hd r⟩
  · obtain ⟨d, as, hd, ra, rfl⟩ := PySem.W.dataKind_inv ha
    obtain ⟨d', as', hd', rb, rfl⟩ := PySem.W.dataKind_inv hb
    exact PySem.W.oneLt_alike (f := false) (fun z => by cases z) ra rb (hal d hd d' hd') (hn d hd) (Nat.lt_of_le_of_lt (Nat.add_le_add_left (Nat.min_le_left _ _) _) (hu d hd)) hq
theorem sort_le1 {xs : List D} (h : xs.length ≤ 1) : xs.mergeSort (W.dataLe false id) = xs := by
  match xs, h with
  | [], _ => simp
  | [x], _ => simp
/-- sorted(xs) of a list, the sorting premise given at the heap in which it is asked -/
theorem sorted_list {pins : List (Addr × Obj)} {s : Shared} {σ : L2.St} {H : Hp} {O : List Addr} {p : Addr} {vs : List V} {ds : List D} {Q : VK} {k : Nat} (hr : Room k X.A) (I : Inv X pins σ H s) (dm : Dm O H) (r1 : Rps X.K (hid O H) vs ds) (q : H p = some (.lst vs))
    (hs : shs ds = true) (hal : PySem.W.AllAlike ds) (hk : PySem.W.Sortable ds ∨ (ds.length ≤ 1 ∧ ∀ d ∈ ds, d ≠ .none)) (n : Nw true X.K O H (.list (ds.mergeSort (W.dataLe false id))) Q) :
    wpAny (model X.prog X.w) X.A (call (.builtin "sorted") [.ref p]) (EP X pins σ Q) X.xe s := by
  obtain ⟨its, rv, pl, hz⟩ := I.list (.inl (.inl q))
  have e1 := each_in rv r1
  have er : PySem.W.EachIs (fun v d => ∃ as, Reads s.heap v (id d) as) its ds := e1.mono fun v d ⟨x, h1, h2⟩ => (h2.mono (hid_le O H)).reads I h1
  have hlen : ds.length ≤ sizeLine := by rw [← r1.length]; exact hz
  obtain ⟨_, _, dp⟩ := shs_plain hs
  have hu : ∀ d, d ∈ ds → X.A.units + 2 + d.depth < cLine := fun d hd => by have := room_le hr (n := 22) (by omega); have := dp d hd; omega
  have fin : ∀ out : List Value, PySem.W.EachIs (fun v d => ∃ x, RelV x v ∧ Rp X.K (hid O H) x d) out (ds.mergeSort (W.dataLe false id)) → out.length = ds.length → EP X pins σ Q (.ref (s.heap.objs.size + 1)) { s with heap := sortedAll s.heap its out.toArray } := fun out eo hol => by
    obtain ⟨ws, h1, h2⟩ := vals_out eo
    obtain ⟨c, hc⟩ := sortedAll_at s.heap its out.toArray
    have hn : H (s.heap.objs.size + 1) = none := I.hok.fresh (Nat.le_succ _)
    refine ⟨.ref (s.heap.objs.size + 1), upd H (s.heap.objs.size + 1) (.lst ws), I.laid (t' := s.toks) (fun b o e => sortedAll_old e) (Nat.le_succ _) ⟨?_, out, c, h1, hc⟩, rfl, n.lst dm h2 hn⟩
    have := h1.length
    omega
  rcases hk with hk | hk
  · refine PySem.W.sorted_data (bs := ds) (enc := id) (R := fun v d => ∃ x, RelV x v ∧ Rp X.K (hid O H) x d) pl.isList e1 er (by simpa using hal) (by simpa using hk) hlen hu fun out ho eo => fin out eo ho
  · have er' : PySem.W.EachIs (fun v d => ∃ as, Reads (PySem.W.sortingHeap (PySem.W.copyHeap s.heap its) (s.heap.objs.size + 1) its) v d as) its ds := er.mono fun _ _ ⟨as, r⟩ => ⟨as, PyProof.Rows.Reads.keeps (fun _ _ => PySem.W.sorting_copy_old) r⟩
    refine PySem.W.sorted_vals pl.isList (sorts_one (s := { s with heap := PySem.W.sortingHeap (PySem.W.copyHeap s.heap its) (s.heap.objs.size + 1) its }) er' hal hk.2 hk.1 hu) (by rw [e1.length]; exact hlen) ?_
    refine fin _ ?_ (by rw [PySem.W.sortVals_length false rfl]; exact e1.length)
    have hq := PySem.W.sortVals_data (enc := id) (h' := PySem.W.sortingHeap (PySem.W.copyHeap s.heap its) (s.heap.objs.size + 1) its) false e1 er' (by simpa using hal)
    simpa using hq
theorem bi_sorted {k : Nat} (hr : Room k X.A) : CallR X (.builtin "sorted") (rD1 X.K .sorted) := by
  intro pins s σ H xs us Q I r h
  obtain ⟨O, x, a, z, rfl, dm, ha, hz, n⟩ := h
  cases a <;> try (simp [dBi] at hz; done)
  case list ds =>
    obtain ⟨p, vs, e1, r1, q⟩ := ha.lst
    subst e1
    rw [Vals.ref1 r]
    simp only [dBi, dSort] at hz
    split at hz
    · rename_i hl
      rw [Bool.and_eq_true, Bool.and_eq_true] at hl
      obtain ⟨h1, h2, h3⟩ := hl
      have h1 := of_decide_eq_true h1
      have e : PyData.list ds = z := Option.some.inj hz
      subst e
      have hn : ∀ d ∈ ds, d ≠ .none := fun d hd e => by
        subst e
        have := List.all_eq_true.mp h3 _ hd
        simp [isN] at this
      have hal : PySem.W.AllAlike ds := fun d hd d' hd' => by
        match ds, h1, hd, hd' with
        | [y], _, hd, hd' =>
          rw [List.mem_singleton.mp hd, List.mem_singleton.mp hd']
          exact alike_refl_plain y ((shs_plain h2).1 y (by simp))
      exact sorted_list hr I dm r1 q h2 hal (.inr ⟨h1, hn⟩) (by rw [sort_le1 h1]; exact n)
    · split at hz
      · rename_i hl
        rw [Bool.and_eq_true, Bool.and_eq_true] at hl
        obtain ⟨h1, h2, h3⟩ := hl
        have e : PyData.list (ds.mergeSort (W.dataLe false id)) = z := Option.some.inj hz
        subst e
        exact sorted_list hr I dm r1 q h1 (fun x hx y hy => allAlike_of h2 x hx y hy) (.inl (sortable_of h3)) n
      · cases hz
/-! ### isinstance, max, min of two -/
def tyN : Ty → String
  | .int => "int"
  | .bool => "bool"
  | .str => "str"
  | .tuple => "tuple"
  | .list => "list"
  | .dict => "dict"
def rIsD (K : PySem.W.Frag) (t : Ty) : List V → Hp → VK → Prop := fun xs H Q => ∃ O x a, xs = [x, .ty (tyN t)] ∧ Br K O H x a ∧ Q (.bl (dIs a t)) H
theorem bi_isin (t : Ty) : CallR X (.builtin "isinstance") (rIsD X.K t) := by
  intro pins s σ H xs us Q I r h
  obtain ⟨O, x, a, rfl, ha, q⟩ := h
  obtain ⟨u1, u2, rfl, r1, r2⟩ := vals2 r
  cases (show u2 = Value.type (tyN t) from r2)
  obtain ⟨as, ra⟩ := ha.reads I r1
  cases t with
  | int => exact PySem.W.isinstance_int_data ra fun tk _ => ⟨.bl _, H, I.tok tk, by cases a <;> rfl, q⟩
  | bool => exact PySem.W.isinstance_bool_data ra fun tk _ => ⟨.bl _, H, I.tok tk, by cases a <;> rfl, q⟩
  | str => exact PySem.W.isinstance_str_data ra fun tk _ => ⟨.bl _, H, I.tok tk, by cases a <;> rfl, q⟩
  | tuple => exact PySem.W.isinstance_tuple_data ra fun tk _ => ⟨.bl _, H, I.tok tk, by cases a <;> rfl, q⟩
  | list => exact PySem.W.isinstance_list_data ra fun tk _ => ⟨.bl _, H, I.tok tk, by cases a <;> rfl, q⟩
  | dict => exact PySem.W.isinstance_dict_data ra fun tk _ => ⟨.bl _, H, I.tok tk, by cases a <;> rfl, q⟩
def rM2 (K : PySem.W.Frag) (g : D → D → Option D) : List V → Hp → VK → Prop := fun xs H Q => ∃ O x y a b z, xs = [x, y] ∧ Br K O H x a ∧ Br K O H y b ∧ g a b = some z ∧ Nw false K O H z Q
theorem bi_mx (hc : X.calm = true) : CallR X (.builtin "max") (rM2 X.K dMx) := by
  intro pins s σ H xs us Q I r h
  obtain ⟨O, x, y, a, b, z, rfl, ha, hb, hz, n⟩ := h
  cases a <;> cases b <;> try (simp [dMx] at hz; done)
  case int.int i j =>
    have e : PyData.int (if j > i then j else i) = z := Option.some.inj hz
    subst e
    exact call_max2 hc pins s σ H _ us Q I r ⟨i, j, by rw [ha.int, hb.int], n.int⟩
theorem bi_mn (hc : X.calm = true) : CallR X (.builtin "min") (rM2 X.K dMn) := by
  intro pins s σ H xs us Q I r h
  obtain ⟨O, x, y, a, b, z, rfl, ha, hb, hz, n⟩ := h
  cases a <;> cases b <;> try (simp [dMn] at hz; done)
  case int.int i j =>
    have e : PyData.int (if j < i then j else i) = z := Option.some.inj hz
    subst e
    exact call_min2 hc pins s σ H _ us Q I r ⟨i, j, by rw [ha.int, hb.int], n.int⟩
end
end PV

set_option maxHeartbeats 4000000
/-! PV: xs[::-1] of lists and tuples. -/
namespace PV
open PySem L2 PyProof.Rows HT
section
variable {prog : Program} {w : World} {A : Around} {E : Value → Shared → Prop} {s : Shared}
theorem adjust_rev (n : Nat) : Builtin.Slice.sliceAdjust none none (-1) (n : Int) = ((n : Int) - 1, -1) := by
  unfold Builtin.Slice.sliceAdjust
  simp
theorem places_rev (n : Nat) : Builtin.Slice.slicePlaces ((n : Int) - 1) (-1) (-1) = n := by
  unfold Builtin.Slice.slicePlaces
  have c : ¬ ((-1 : Int) > 0) := by decide
  rw [if_neg c]
  by_cases h : (n : Int) - 1 > -1
  · rw [if_pos h, show ((n : Int) - 1 - -1 - 1) / (- -1) = (n : Int) - 1 by rw [show (- -1 : Int) = 1 by decide, Int.ediv_one]; omega]
    omega
  · rw [if_neg h]
    omega
theorem applied_rev {sl : Addr} {vs : Value} {n : Nat} {Q : Int × Int × Nat → Shared → Prop} (hs : s.heap.IsSliceOf sl .none .none vs) (ps : IsPart vs (some (-1))) (q : Q ((n : Int) - 1, -1, n) s) :
    wpAny (model prog w) A (Builtin.Slice.sliceApplied (.ref sl) (pure (n : Int))) Q E s := by
  obtain ⟨ob, ho, hc, hd⟩ := id hs
  unfold Builtin.Slice.sliceApplied Builtin.Slice.sliceFields
  refine wpAny_bind (wpAny_bind (wpAny_field ho hd (x := .none) rfl (wpAny_bind (wpAny_field ho hd (x := .none) rfl (wpAny_bind (wpAny_field ho hd (x := vs) rfl (wpAny_pure ?_)))))))
  refine wpAny_bind (slicePart_ ps ?_)
  show wpAny _ _ (if ((-1 : Int) == 0) = true then _ else _) _ _ s
  rw [if_neg (by decide)]
  refine wpAny_bind (slicePart_none (wpAny_bind (slicePart_none (wpAny_bind (wpAny_pure ?_)))))
  show wpAny _ _ (match Builtin.Slice.sliceAdjust none none (-1) (n : Int) with | (a, b) => pure (a, (-1 : Int), Builtin.Slice.slicePlaces a b (-1))) _ _ s
  rw [adjust_rev n]
  show wpAny _ _ (pure ((n : Int) - 1, (-1 : Int), Builtin.Slice.slicePlaces ((n : Int) - 1) (-1) (-1))) _ _ s
  rw [places_rev]
  exact wpAny_pure q
theorem fm_congr {α β : Type} {f g : α → Option β} : ∀ xs : List α, (∀ x ∈ xs, f x = g x) → xs.filterMap f = xs.filterMap g
  | [], _ => rfl
  | x :: xs, h => by rw [List.filterMap_cons, List.filterMap_cons, h x (by simp), fm_congr xs fun y hy => h y (by simp [hy])]
theorem pick_rev (xs : Array Value) : ((List.range xs.size).filterMap fun (m : Nat) => xs[(((xs.size : Int) - 1) + (m : Int) * (-1)).toNat]?).toArray = xs.toList.reverse.toArray := by
  have e : (List.range xs.size).filterMap (fun (m : Nat) => xs[(((xs.size : Int) - 1) + (m : Int) * (-1)).toNat]?) = xs.toList.reverse := by
    have e1 : (List.range xs.size).filterMap (fun (m : Nat) => xs[(((xs.size : Int) - 1) + (m : Int) * (-1)).toNat]?) = ((List.range xs.size).map fun k => xs.size - 1 - k).filterMap (xs[·]?) := by
      rw [List.filterMap_map]
      refine fm_congr _ fun m hm => ?_
      have := List.mem_range.mp hm
      rw [show (((xs.size : Int) - 1) + (m : Int) * (-1)).toNat = xs.size - 1 - m by omega]
      rfl
    rw [e1, PySem.W.krv_range, List.filterMap_reverse, PySem.W.krv_all]
  rw [e]
theorem get_tuple_rev {t sl : Addr} {its : Array Value} {vs : Value} {Q : Value → Shared → Prop} (ht : IsTup s.heap t its) (hs : s.heap.IsSliceOf sl .none .none vs) (ps : IsPart vs (some (-1)))
    (q : Q (.ref s.heap.objs.size) { s with heap := s.heap.push { cls := .type "tuple", data := .seq its.toList.reverse.toArray } }) (hz : its.size ≤ sizeLine) : wpAny (model prog w) A (getItem (.ref t) (.ref sl)) Q E s := by
  have hk : sizeOk (.seq its.toList.reverse.toArray) := by
    show its.toList.reverse.toArray.size ≤ sizeLine
    rw [List.size_toArray, List.length_reverse, Array.length_toList]
    exact hz
  obtain ⟨ob, ho, hc, hd⟩ := id hs
  have ty : s.TypeIs (.ref sl) "slice" := ⟨ob, ho, hc⟩
  unfold getItem
  try (with_reducible refine wpAny_holding ?_)
  first | (refine wpAny_bind (wpAny_pure ?_)) | skip
  refine wpAny_bind (wpAny_sequenceKey ht.typeIs (by decide) (wpAny_bind (wpAny_callSpecial?_slot (name := Str.ofString "__getitem__") ht.typeIs PyProof.Rows.slot_tuple_getitem
    (wpAny_call_entry PyProof.Rows.slot_tuple_getitem ht.typeIs PyProof.Rows.entry_tuple_getitem ?_ (PyProof.Rows.args_tuple_getitem _ _)))))
  show wpAny _ _ (Builtin.Tuple.tupleItemsOf (.ref t) >>= _) _ _ s
  refine wpAny_bind (tupleItemsOf_ ht (wpAny_bind (wpAny_typeOf ty ?_)))
  rw [if_pos (by decide)]
  refine wpAny_bind (applied_rev hs ps ?_)
  have no : ¬ ((((its.size : Int) - 1) == 0 && (-1 : Int) == 1 && its.size == its.size) = true) := by
    rw [show ((-1 : Int) == 1) = false by decide]
    simp
  show wpAny _ _ (if (((its.size : Int) - 1) == 0 && (-1 : Int) == 1 && its.size == its.size) = true then _ else _) _ _ s
  rw [if_neg no, pick_rev]
  first
    | exact wpAny_bind (m := Builtin.Tuple.tupleExact _) (wpAny_newObj_type (wpAny_pure ⟨_, rfl, wpAny_pure q⟩) hk)
    | exact wpAny_bind (m := Builtin.Tuple.tupleExact _) (wpAny_newObj_type (wpAny_bind (wpAny_pure (wpAny_pure ⟨_, rfl, wpAny_pure q⟩))) hk)
    | exact wpAny_bind (wpAny_bind (m := Builtin.Tuple.tupleExact _) (wpAny_newObj_type (wpAny_pure (wpAny_pure ⟨_, rfl, wpAny_pure q⟩)) hk))
    | exact wpAny_bind (wpAny_bind (m := Builtin.Tuple.tupleExact _) (wpAny_newObj_type (wpAny_pure ⟨_, rfl, wpAny_pure q⟩) hk))
end
section
variable {X : Cx} {e : Expr} {te : TE}
def rRv (K : PySem.W.Frag) (x : V) (H : Hp) (Q : VK) : Prop := ∃ O a z, Dm O H ∧ Br K O H x a ∧ dRev a = some z ∧ Nw true K O H z Q
theorem pe_rv {k : Nat} {p1 p2 p3 pos : Pos} (he : PE X e te) : PE X (.Subscript e (.Slice none none (some (.UnaryOp .USub (.Constant (.int 1) k p1) p2)) p3) pos) (fun σ H Q => te σ H fun x H1 => rRv X.K x H1 Q) := by
  refine ⟨fun pins s σ H Q I h => Subscript_ (thn (he.run pins s σ H _ I h) fun v s1 ⟨x, H1, I1, rx, q1⟩ => ?_)⟩
  obtain ⟨O, a, z, dm, ha, hz, nw⟩ := q1
  have hst : PO X (some (.UnaryOp .USub (.Constant (.int 1) k p1) p2)) (tPart (tUn (rU fun i => .int (-i)) (tC (.int 1)))) := po_some (pe_un un_neg pe_int)
  refine wpAny_Slice (thn (po_none.run pins s1 σ H1 (fun o G => o = none ∧ G = H1) I1 ⟨rfl, rfl⟩) fun vl s2 ⟨l, H2, I2, pl, el, e2⟩ => ?_)
  subst el e2
  refine thn (po_none.run pins s2 σ H2 (fun o G => o = none ∧ G = H2) I2 ⟨rfl, rfl⟩) fun vu s3 ⟨u, H3, I3, pu, eu, e3⟩ => ?_
  subst eu e3
  refine thn (hst.run pins s3 σ H3 (fun o G => o = some (-1) ∧ G = H3) I3 ⟨1, rfl, -1, rfl, rfl, rfl⟩) fun vs s4 ⟨o, H4, I4, ps, eo, e4⟩ => ?_
  subst eo e4
  cases pl
  cases pu
  have I5 : Inv X pins σ H4 { s4 with heap := s4.heap.push { cls := .type "slice", data := .fields #[.none, .none, vs] } } := I4.kept (t' := s4.toks) fun b ob q => Heap.get?_push_of_some _ q
  show wpAny (model X.prog X.w) X.A (subscriptTail e (.Slice none none (some (.UnaryOp .USub (.Constant (.int 1) k p1) p2)) p3) v (.ref s4.heap.objs.size)) (EP X pins σ Q) X.xe { s4 with heap := s4.heap.push { cls := .type "slice", data := .fields #[.none, .none, vs] } }
  cases a <;> try (simp [dRev] at hz; done)
  case list ds =>
    have ez : PyData.list ds.reverse = z := Option.some.inj hz
    subst ez
    obtain ⟨p, ws, e1, r1, h1⟩ := ha.lst
    subst e1
    cases rx
    obtain ⟨its, r, ht, hl⟩ := I5.list (.inl (.inl h1))
    have hlen := r.length
    refine tail_any (ops := [.ref p, .ref s4.heap.objs.size]) ht.isList.typeIs (PySem.slot_list_getitem.lookup) ?_ (by with_unfolding_all rfl)
    refine wpAny_getItem_list_slice ht.isList (Heap.IsSliceOf.new _ .none .none vs) .none .none ps (by decide) ?_ (by rw [List.size_toArray]; omega)
    rw [PySem.W.krv_pick]
    exact ⟨.ref _, _, I5.laid (t' := s4.toks) (o := .lst ws.reverse) (fun b ob q => Heap.get?_push_of_some _ q) (Nat.le_refl _) ⟨by rw [List.length_reverse]; exact hl, _, 0, r.reverse, Heap.get?_push_size _ rfl⟩, rfl, nw.lst dm r1.reverse (I5.hok.fresh (Nat.le_refl _))⟩
  case tuple ds =>
    have ez : PyData.tuple ds.reverse = z := Option.some.inj hz
    subst ez
    obtain ⟨p, ws, e1, r1, h1, _⟩ := ha.tup
    subst e1
    cases rx
    obtain ⟨its, r, ht, hl⟩ := I5.tuple h1
    have hlen := r.length
    refine tail_any (ops := [.ref p, .ref s4.heap.objs.size]) ht.typeIs PyProof.Rows.slot_tuple_getitem.lookup ?_ (by with_unfolding_all rfl)
    refine get_tuple_rev ht (Heap.IsSliceOf.new _ .none .none vs) ps ?_ (by rw [List.size_toArray]; omega)
    exact ⟨.ref _, _, I5.laid (t' := s4.toks) (o := .tup ws.reverse) (fun b ob q => Heap.get?_push_of_some _ q) (Nat.le_refl _) ⟨by rw [List.length_reverse]; exact hl, _, r.reverse, IsTup.new _ _⟩, rfl, nw.tup dm r1.reverse (I5.hok.fresh (Nat.le_refl _))⟩
end
end PV

set_option maxHeartbeats 4000000
/-! PV: views of the syntax, the checker. -/
namespace PV
open PySem L2

structure Ct where
  N : List Str
  sc : Scope
  own : Scope
  iw : Nat
  fs : List (Nat × Str × Nat × Bool)
  gl : List (Nat × Str)

def isGl (ct : Ct) (x : Str) : Bool := ct.sc.names.lookup x == some .globalImplicit
def isLoc (sc : Scope) (x : Str) : Bool := sc.names.lookup x == some .local || sc.names.lookup x == some .cell
def isVis (sc : Scope) (x : Str) : Bool := isLoc sc x || sc.names.lookup x == some .free
def notDbg (x : Str) : Bool := !(x == ("__debug__" : Str)) && !(x == ("__classdict__" : Str))
def notStar : Expr → Bool
  | .Starred .. => false
  | _ => true
def notSet : Expr → Bool
  | .Set .. => false
  | _ => true
/-- a test that is a value's truth -/
def notTest : Expr → Bool
  | .UnaryOp .Not _ _ => false
  | .BoolOp .. => false
  | .IfExp .. => false
  | .Compare .. => false
  | _ => true

/-! views -/
def vConst : Expr → Option Const
  | .Constant c _ _ => some c
  | _ => none
def vName : Expr → Option Str
  | .Name x _ => some x
  | _ => none
def vBin : Expr → Option (Expr × Operator × Expr)
  | .BinOp a o b _ => some (a, o, b)
  | _ => none
def vUn : Expr → Option (UnaryOp × Expr)
  | .UnaryOp o a _ => some (o, a)
  | _ => none
def vBool : Expr → Option (BoolOp × List Expr × Pos)
  | .BoolOp o vs p => some (o, vs, p)
  | _ => none
def vIf : Expr → Option (Expr × Expr × Expr)
  | .IfExp t a b _ => some (t, a, b)
  | _ => none
def vTup : Expr → Option (List Expr)
  | .Tuple es _ _ => some es
  | _ => none
def vLst : Expr → Option (List Expr)
  | .List es _ => some es
  | _ => none
def vCmp : Expr → Option (Expr × List CmpOp × List Expr)
  | .Compare a os bs _ => some (a, os, bs)
  | _ => none
def vSub : Expr → Option (Expr × Expr)
  | .Subscript a i _ => some (a, i)
  | _ => none
def vSli : Expr → Option (Option Expr × Option Expr × Option Expr)
  | .Slice a b c _ => some (a, b, c)
  | _ => none
/-- f(es), f a name -/
def vCall : Expr → Option (Str × List Expr)
  | .Call (.Name x _) es [] _ => some (x, es)
  | _ => none
/-- o.m(es) -/
def vMeth : Expr → Option (Expr × Str × Pos × List Expr × Pos)
  | .Call (.Attribute o m ap) es [] cp => some (o, m, ap, es, cp)
  | _ => none
def vLc1 : Expr → Option (Expr × Expr × Expr × List Expr × Scope)
  | .ListComp elt [⟨tg, it, ifs, 0⟩] sc _ => some (elt, tg, it, ifs, sc)
  | _ => none
def vLc2 : Expr → Option (Expr × (Expr × Expr × List Expr) × (Expr × Expr × List Expr) × Scope)
  | .ListComp elt [⟨tg, it, ifs, 0⟩, ⟨tg1, it1, ifs1, 0⟩] sc _ => some (elt, (tg, it, ifs), (tg1, it1, ifs1), sc)
  | _ => none

theorem vConst_eq {e : Expr} {c : Const} (h : vConst e = some c) : ∃ j p, e = .Constant c j p := by
  cases e <;> simp [vConst] at h
  subst h
  exact ⟨_, _, rfl⟩
theorem vName_eq {e : Expr} {c : Str} (h : vName e = some c) : ∃ p, e = .Name c p := by
  cases e <;> simp [vName] at h
  subst h
  exact ⟨_, rfl⟩
theorem vBin_eq {e : Expr} {a b : Expr} {o : Operator} (h : vBin e = some (a, o, b)) : ∃ p, e = .BinOp a o b p := by
  cases e <;> simp [vBin] at h
  obtain ⟨rfl, rfl, rfl⟩ := h
  exact ⟨_, rfl⟩
theorem vUn_eq {e : Expr} {a : Expr} {o : UnaryOp} (h : vUn e = some (o, a)) : ∃ p, e = .UnaryOp o a p := by
  cases e <;> simp [vUn] at h
  obtain ⟨rfl, rfl⟩ := h
  exact ⟨_, rfl⟩
theorem vBool_eq {e : Expr} {o : BoolOp} {vs : List Expr} {p : Pos} (h : vBool e = some (o, vs, p)) : e = .BoolOp o vs p := by
  cases e <;> simp [vBool] at h
  obtain ⟨rfl, rfl, rfl⟩ := h
  rfl
theorem vIf_eq {e : Expr} {t a b : Expr} (h : vIf e = some (t, a, b)) : ∃ p, e = .IfExp t a b p := by
  cases e <;> simp [vIf] at h
  obtain ⟨rfl, rfl, rfl⟩ := h
  exact ⟨_, rfl⟩
theorem vTup_eq {e : Expr} {es : List Expr} (h : vTup e = some es) : ∃ k p, e = .Tuple es k p := by
  cases e <;> simp [vTup] at h
  subst h
  exact ⟨_, _, rfl⟩
theorem vLst_eq {e : Expr} {es : List Expr} (h : vLst e = some es) : ∃ p, e = .List es p := by
  cases e <;> simp [vLst] at h
  subst h
  exact ⟨_, rfl⟩
theorem vCmp_eq {e : Expr} {a : Expr} {os : List CmpOp} {bs : List Expr} (h : vCmp e = some (a, os, bs)) : ∃ p, e = .Compare a os bs p := by
  cases e <;> simp [vCmp] at h
  obtain ⟨rfl, rfl, rfl⟩ := h
  exact ⟨_, rfl⟩
theorem vSub_eq {e : Expr} {a i : Expr} (h : vSub e = some (a, i)) : ∃ p, e = .Subscript a i p := by
  cases e <;> simp [vSub] at h
  obtain ⟨rfl, rfl⟩ := h
  exact ⟨_, rfl⟩
theorem vSli_eq {e : Expr} {a b c : Option Expr} (h : vSli e = some (a, b, c)) : ∃ p, e = .Slice a b c p := by
  cases e <;> simp [vSli] at h
  obtain ⟨rfl, rfl, rfl⟩ := h
  exact ⟨_, rfl⟩
theorem vCall_eq {e : Expr} {x : Str} {es : List Expr} (h : vCall e = some (x, es)) : ∃ p q, e = .Call (.Name x p) es [] q := by
  cases e with
  | Call f args kws pos =>
    cases f <;> simp [vCall] at h
    cases kws <;> simp [vCall] at h
    obtain ⟨rfl, rfl⟩ := h
    exact ⟨_, _, rfl⟩
  | _ => simp [vCall] at h
theorem vMeth_eq {e o : Expr} {m : Str} {ap cp : Pos} {es : List Expr} (h : vMeth e = some (o, m, ap, es, cp)) : e = .Call (.Attribute o m ap) es [] cp := by
  cases e with
  | Call f args kws pos =>
    cases f <;> simp [vMeth] at h
    cases kws <;> simp [vMeth] at h
    obtain ⟨rfl, rfl, rfl, rfl, rfl⟩ := h
    rfl
  | _ => simp [vMeth] at h
theorem vLc1_eq {e elt tg it : Expr} {ifs : List Expr} {sc : Scope} (h : vLc1 e = some (elt, tg, it, ifs, sc)) : ∃ p, e = .ListComp elt [⟨tg, it, ifs, 0⟩] sc p := by
  cases e with
  | ListComp el gs s p =>
    unfold vLc1 at h
    split at h
    · rename_i a b c d f g e1
      cases e1
      cases h
      exact ⟨_, rfl⟩
    · cases h
  | _ => simp [vLc1] at h
theorem vLc2_eq {e elt tg it tg1 it1 : Expr} {ifs ifs1 : List Expr} {sc : Scope} (h : vLc2 e = some (elt, (tg, it, ifs), (tg1, it1, ifs1), sc)) : ∃ p, e = .ListComp elt [⟨tg, it, ifs, 0⟩, ⟨tg1, it1, ifs1, 0⟩] sc p := by
  cases e with
  | ListComp el gs s p =>
    unfold vLc2 at h
    split at h
    · rename_i e1
      cases e1
      cases h
      exact ⟨_, rfl⟩
    · cases h
  | _ => simp [vLc2] at h

/-! the checker -/
def biN : Bi → Str
  | .len => "len"
  | .abs => "abs"
  | .sum => "sum"
  | .any => "any"
  | .all => "all"
  | .sorted => "sorted"
  | .min => "min"
  | .max => "max"
  | .tuple => "tuple"
  | .list => "list"
  | .int => "int"
  | .str => "str"
  | .dict => "dict"
  | .sset => "sorted"
  | .lset => "len"
/-- the scope of a block within -/
def Ct.blk (ct : Ct) (scope : Scope) : Ct := { ct with sc := relS scope ct.sc, own := scope }
def ownP (ct : Ct) (own : List Nat) : List (Str × Nat) := own.filterMap fun i => (ct.N[i]?).map fun x => (x, i)
def blkB (ct : Ct) (scope : Scope) (own : List Nat) : Bool :=
  (scope.kind == .function) && scope.names.all (fun y => scope.names.lookup y.1 == some y.2) && ((ownP ct own).map (·.2) == own)
    && scope.names.all (fun y => !(y.2 == .free) || (ct.sc.names.lookup y.1 == some .cell || ct.sc.names.lookup y.1 == some .free))
    && scope.names.all (fun y => !(y.2 == .local || y.2 == .cell) || ((ownP ct own).any (·.1 == y.1) || !ct.N.contains y.1))
    && !own.contains ct.iw
mutual
/-- a target: names of the block that runs, or tuples of such -/
def chkP (ct : Ct) : Pat → Expr → Bool
  | .nm i, e => match vName e with
    | some x => ct.N[i]? == some x && isLoc ct.own x && !(i == ct.iw)
    | none => false
  | .tp ps, e => match vTup e with
    | some es => chkPs ct ps es
    | none => false
def chkPs (ct : Ct) : Pats → List Expr → Bool
  | .nil, [] => true
  | .cons p ps, e :: es => notStar e && (chkP ct p e && chkPs ct ps es)
  | _, _ => false
end
def isTupE : Expr → Bool
  | .Tuple .. => true
  | _ => false
def isNo : E → Bool
  | .none => true
  | _ => false
def isYes : E → Bool
  | .yes => true
  | _ => false
mutual
def chkE (ct : Ct) : E → Expr → Bool
  | .none, e => match vConst e with
    | some .none => true
    | _ => false
  | .bl b, e => match vConst e with
    | some (.bool c) => b == c
    | _ => false
  | .int i, e => match vConst e with
    | some (.int j) => i == j
    | _ => false
  | .str s, e => match vConst e with
    | some (.str t) => s == t
    | _ => false
  | .var i, e => match vName e with
    | some x => ct.N[i]? == some x && (isVis ct.sc x && notDbg x)
    | none => false
  | .gl n, e => match vName e with
    | some x => ct.gl.contains (n, x) && (isGl ct x && notDbg x)
    | none => false
  | .bin o a b, e => match vBin e with
    | some (x, p, y) => decide (p = binOp o) && (chkE ct a x && chkE ct b y)
    | none => false
  | .neg a, e => match vUn e with
    | some (.USub, x) => chkE ct a x
    | _ => false
  | .not a, e => match vUn e with
    | some (.Not, x) => chkE ct a x
    | _ => false
  | .and a b, e => match vBool e with
    | some (.And, [x, y], _) => chkE ct a x && chkE ct b y
    | some (.And, x :: y :: z :: r, p) => chkE ct a x && chkE ct b (.BoolOp .And (y :: z :: r) p)
    | _ => false
  | .or a b, e => match vBool e with
    | some (.Or, [x, y], _) => chkE ct a x && chkE ct b y
    | some (.Or, x :: y :: z :: r, p) => chkE ct a x && chkE ct b (.BoolOp .Or (y :: z :: r) p)
    | _ => false
  | .cmp c a b, e => match vCmp e with
    | some (x, [o], [y]) => decide (o = cmOp c) && (notSet y && (chkE ct a x && chkE ct b y))
    | _ => false
  | .chain c c' a b d, e => match vCmp e with
    | some (x, [o, o'], [y, z]) => decide (o = cmOp c) && (decide (o' = cmOp c') && (notSet z && (chkE ct a x && (chkE ct b y && chkE ct d z))))
    | _ => false
  | .ife t a b, e => match vIf e with
    | some (x, y, z) => chkE ct t x && (chkE ct a y && chkE ct b z)
    | none => false
  | .tup es, e => match vTup e with
    | some xs => decide (es.len ≤ 1000) && chkEs ct es xs
    | none => false
  | .lst es, e => match vLst e with
    | some xs => decide (es.len ≤ 1000) && chkEs ct es xs
    | none => false
  | .ix a i, e => match vSub e with
    | some (x, y) => (vSli y).isNone && (chkE ct a x && chkE ct i y)
    | none => false
  | .sl a lo hi, e => match vSub e with
    | some (x, y) => match vSli y with
      | some (l, h, none) => chkE ct a x && ((match l with
        | none => isNo lo
        | some y => !isNo lo && chkE ct lo y) && (match h with
        | none => isNo hi
        | some y => !isNo hi && chkE ct hi y))
      | _ => false
    | none => false
  | .rev a, e => match vSub e with
    | some (x, y) => match vSli y with
      | some (none, none, some z) => match vUn z with
        | some (.USub, c) => match vConst c with
          | some (.int 1) => chkE ct a x
          | _ => false
        | _ => false
      | _ => false
    | none => false
  | .comp own p s t elt, e => match vLc1 e with
    | some (el, tg, it, ifs, scope) => blkB ct scope own && (p.ns.all own.contains && (chkS ct s tg it && (chkP (ct.blk scope) p tg && ((match ifs with
        | [] => isYes t
        | [y] => !isYes t && chkE (ct.blk scope) t y
        | _ => false) && chkE (ct.blk scope) elt el))))
    | none => false
  | .comp2 own own1 p s t p1 s1 t1 elt, e => match vLc2 e with
    | some (el, (tg, it, ifs), (tg1, it1, ifs1), scope) => blkB ct scope own && (own1.all own.contains && (p.ns.all own.contains && (p1.ns.all own1.contains && (chkS ct s tg it && (chkP (ct.blk scope) p tg && ((match ifs with
        | [] => isYes t
        | [y] => !isYes t && chkE (ct.blk scope) t y
        | _ => false) &&
        (chkS (ct.blk scope) s1 tg1 it1 && (chkP (ct.blk scope) p1 tg1 && ((match ifs1 with
        | [] => isYes t1
        | [y] => !isYes t1 && chkE (ct.blk scope) t1 y
        | _ => false) && chkE (ct.blk scope) elt el)))))))))
    | none => false
  | .call f es, e => match vCall e with
    | some (x, y :: ys) => ct.fs.contains (f, x, (y :: ys).length, false) && (isGl ct x && (notDbg x && chkEs ct es (y :: ys)))
    | _ => false
  | .callw f es, e => match vCall e with
    | some (x, y :: ys) => match vName y with
      | some z => ct.fs.contains (f, x, (y :: ys).length, true) && (isGl ct x && (notDbg x && (ct.N[ct.iw]? == some z && (isVis ct.sc z && (notDbg z && chkEs ct es ys)))))
      | none => false
    | _ => false
  | .bi b a, e => match vCall e with
    | some (x, [y]) => biOk b && (x == biN b && (isGl ct x && (notStar y && chkE ct a y)))
    | _ => false
  | .bis b s, e => match vCall e with
    | some (x, [y]) => match b with
      | .tuple => x == ("tuple" : Str) && (isGl ct x && (notStar y && chkR ct s y))
      | .list => x == ("list" : Str) && (isGl ct x && (notStar y && chkR ct s y))
      | _ => false
    | _ => false
  | .mx a b, e => match vCall e with
    | some (x, [y, z]) => x == ("max" : Str) && (isGl ct x && (notStar y && (notStar z && (chkE ct a y && chkE ct b z))))
    | _ => false
  | .mn a b, e => match vCall e with
    | some (x, [y, z]) => x == ("min" : Str) && (isGl ct x && (notStar y && (notStar z && (chkE ct a y && chkE ct b z))))
    | _ => false
  | .isin a t, e => match vCall e with
    | some (x, [y, z]) => match vName z with
      | some n => x == ("isinstance" : Str) && (isGl ct x && (n == Str.ofString (tyN t) && (isGl ct n && (notStar y && chkE ct a y))))
      | none => false
    | _ => false
  | .bad, _ => true
  | _, _ => false
def chkEs (ct : Ct) : Es → List Expr → Bool
  | .nil, [] => true
  | .cons c es, x :: xs => notStar x && (chkE ct c x && chkEs ct es xs)
  | _, _ => false
/-- what a loop walks, with its target -/
def chkS (ct : Ct) : Src → Expr → Expr → Bool
  | .val c, _, x => notSet x && chkE ct c x
  | .r1 a, _, e => match vCall e with
    | some (x, [y]) => x == ("range" : Str) && (isGl ct x && (notStar y && chkE ct a y))
    | _ => false
  | .r2 a b, _, e => match vCall e with
    | some (x, [y, z]) => x == ("range" : Str) && (isGl ct x && (notStar y && (notStar z && (chkE ct a y && chkE ct b z))))
    | _ => false
  | .r3 a b c, _, e => match vCall e with
    | some (x, [y, z, u]) => x == ("range" : Str) && (isGl ct x && (notStar y && (notStar z && (notStar u && (chkE ct a y && (chkE ct b z && chkE ct c u))))))
    | _ => false
  | .zip a b, tg, e => match vCall e with
    | some (x, [y, z]) => isTupE tg && (x == ("zip" : Str) && (isGl ct x && (notStar y && (notStar z && (chkE ct a y && chkE ct b z)))))
    | _ => false
/-- range(..) as an argument -/
def chkR (ct : Ct) : Src → Expr → Bool
  | .r1 a, e => match vCall e with
    | some (x, [y]) => x == ("range" : Str) && (isGl ct x && (notStar y && chkE ct a y))
    | _ => false
  | .r2 a b, e => match vCall e with
    | some (x, [y, z]) => x == ("range" : Str) && (isGl ct x && (notStar y && (notStar z && (chkE ct a y && chkE ct b z))))
    | _ => false
  | _, _ => false
end
/-- a bound of a slice: none where it is left out -/
def chkO (ct : Ct) (c : E) (o : Option Expr) : Bool := match o with
  | none => isNo c
  | some y => !isNo c && chkE ct c y
/-- the tests of a clause: one or none -/
def chkT (ct : Ct) (t : E) (ifs : List Expr) : Bool := match ifs with
  | [] => isYes t
  | [y] => !isYes t && chkE ct t y
  | _ => false
end PV

set_option maxHeartbeats 4000000
/-! PV: expressions: what the interpreter reckons the model gives. -/
namespace PV
open PySem L2

structure Pm where
  C : Nat → Option D
  F : Nat → List D → W D
  G : Nat → List D → W D
  w : Wp
  iw : Nat

/-- the promise of a def of n parameters that gives what f says -/
def spF (n : Nat) (f : List D → W D) (K : PySem.W.Frag) : Sp := fun vs H Q _ => vs.length = n ∧ ∃ O ds R, Dm O H ∧ Rps K (hid O H) vs ds ∧ f ds R ∧ ∀ d v H', R d → Le H H' → Rp K (hid O H') v d → Q v H'
/-- .. that draws: its first parameter is w -/
def spG (n : Nat) (f : List D → W D) (K : PySem.W.Frag) : Sp := fun vs H Q _ => vs.length = n ∧ ∃ t O ds R vs', vs = .ref t.1 :: vs' ∧ WOk (some t) H ∧ t.1 ∈ O ∧ Dm O H ∧ Rps K (hid O H) vs' ds ∧ f ds R ∧
  ∀ d v H', R d → Ext (some t) H H' → Rp K (hid O H') v d → Q v H'
def bltN : List Str := ["len", "abs", "sum", "any", "all", "sorted", "min", "max", "tuple", "list", "int", "str", "dict", "set", "range", "zip", "isinstance", "bool"]

/-- the context in which code of the checked form runs -/
structure Gd (P : Pm) (ct : Ct) (X : Cx) (k : Nat) : Prop where
  hN : X.N = ct.N
  nd : ct.N.Nodup
  hsc : X.env.scope = ct.sc
  hiw : ct.iw = P.iw
  calm : X.calm = true
  room : Room k X.A
  blt : ∀ x ∈ bltN, X.mg x = none
  sto : ∀ x, isLoc ct.own x = true → Loc X.env.scope x ∧ (X.fn x = true ∨ X.env.scope.names.lookup x = some .local)
  fns : ∀ f x n b, (f, x, n, b) ∈ ct.fs → ∃ a fd ps, X.mg x = some (.ref a) ∧ PySem.W.keepIn X.K (.ref a) = true ∧ Binds X.K fd ps [] ∧
    FnOk X.prog X.w X.K X.mg X.base CX0 k a fd ps (if b = true then spG n (P.G f) X.K else spF n (P.F f) X.K)
  hws : ∀ f x n, (f, x, n, true) ∈ ct.fs → P.w.isSome = true
  gls : ∀ n x, (n, x) ∈ ct.gl → ∃ v u d, X.mg x = some u ∧ RelV v u ∧ P.C n = some d ∧ ∀ H, Rp X.K H v d

abbrev Pm.ev (P : Pm) (c : E) (ρ : Env) : W D := PV.ev wM P.C P.F P.G c ρ
abbrev Pm.evs (P : Pm) (c : Es) (ρ : Env) : W (List D) := PV.evs wM P.C P.F P.G c ρ
abbrev Pm.evS (P : Pm) (c : Src) (ρ : Env) : W (List D) := PV.evS wM P.C P.F P.G c ρ
abbrev NoOw (vs : List Nat) (ρ : Env) : Prop := ∀ i ∈ vs, getO ρ i = none
def Res (c : E) (K : PySem.W.Frag) (O : List Addr) (H H' : Hp) (v : V) (d : D) : Prop := Rp K (hid O H') v d ∧ (c.fresh = true → isMut d = true → FrP K O H H' v d)
def tE (P : Pm) (K : PySem.W.Frag) (c : E) : TE := fun σ H Q => ∃ O0 H0 O ρ R, Sim K P.w P.iw O0 H0 O H σ ρ ∧ NoOw (esc false c) ρ ∧ P.ev c ρ R ∧ ∀ d v H', R d → Ext P.w H H' → Res c K O H H' v d → Q v H'
def SlOw (σ : L2.St) (ρ : Env) (p : Addr) : Prop := ∃ (i : Nat) (d : D), ρ[i]? = some (.ow d) ∧ σ[i]? = some (some (.ref p))
/-- a list that some slot alone holds is that slot's -/
def LsOw (O : List Addr) (σ : L2.St) (ρ : Env) (v : V) (d : D) : Prop := ∀ p ds, v = .ref p → d = .list ds → p ∈ O → SlOw σ ρ p
def tB (P : Pm) (K : PySem.W.Frag) (c : E) : TE := fun σ H Q => ∃ O0 H0 O ρ R, Sim K P.w P.iw O0 H0 O H σ ρ ∧ NoOw (esc true c) ρ ∧ P.ev c ρ R ∧ ∀ d v H', R d → Ext P.w H H' → Br K O H' v d → LsOw O σ ρ v d → Q v H'
def tT (P : Pm) (K : PySem.W.Frag) (c : E) : TT := fun σ H Q => ∃ O0 H0 O ρ R, Sim K P.w P.iw O0 H0 O H σ ρ ∧ NoOw (esc true c) ρ ∧ P.ev c ρ R ∧ ∀ d H', R d → Ext P.w H H' → ∃ b, bool? d = some b ∧ Q b H'
def tEs (P : Pm) (K : PySem.W.Frag) (c : Es) : TA := fun σ H Q => ∃ O0 H0 O ρ R, Sim K P.w P.iw O0 H0 O H σ ρ ∧ NoOw (escs c) ρ ∧ P.evs c ρ R ∧ ∀ ds vs H', R ds → Ext P.w H H' → Rps K (hid O H') vs ds → vs.length = c.len → Q vs H'

theorem _root_.L2.PE.imp {X : Cx} {e : Expr} {t t' : TE} (h : PE X e t') (k : ∀ σ H Q, t σ H Q → t' σ H Q) : PE X e t := ⟨fun pins s σ H Q I q => h.run pins s σ H Q I (k σ H Q q)⟩
theorem _root_.L2.PT.imp {X : Cx} {e : Expr} {t t' : TT} (h : PT X e t') (k : ∀ σ H Q, t σ H Q → t' σ H Q) : PT X e t := ⟨fun pins s σ H Q I q => h.run pins s σ H Q I (k σ H Q q)⟩
theorem _root_.L2.PW.imp {X : Cx} {e : Expr} {t t' : TT} (h : PW X e t') (k : ∀ σ H Q, t σ H Q → t' σ H Q) : PW X e t := ⟨fun wh pins s σ H Q I q => h.run wh pins s σ H Q I (k σ H Q q)⟩
theorem _root_.L2.PA.imp {X : Cx} {es : List Expr} {t t' : TA} (h : PA X es t') (k : ∀ σ H Q, t σ H Q → t' σ H Q) : PA X es t := ⟨fun pos pins s σ H Q I q => h.run pos pins s σ H Q I (k σ H Q q)⟩
theorem wlift {α : Type} {o : Option α} {R : α → Prop} (h : wM.lift o R) : ∃ z, o = some z ∧ R z := by
  cases o with
  | none => exact False.elim h
  | some z => exact ⟨z, rfl, h⟩
theorem FrP.back {w : Wp} {K : PySem.W.Frag} {O : List Addr} {H H1 H2 : Hp} {v : V} {z : D} (h : FrP K O H1 H2 v z) (e : Ext w H H1) : FrP K O H H2 v z := by
  obtain ⟨p, vs, ds, e1, e2, n, hp, r⟩ := h
  refine ⟨p, vs, ds, e1, e2, ?_, hp, r⟩
  cases q : H p with
  | none => rfl
  | some o =>
    by_cases hw : w.is p
    · obtain ⟨t, ht, rfl⟩ := hw
      have wk := e.2
      rw [ht] at wk
      obtain ⟨j, _, h1, _⟩ := wk
      rw [h1] at n
      cases n
    · rw [e.1 p o hw q] at n
      cases n
theorem noOw_l {a b : List Nat} {ρ : Env} (h : NoOw (a ++ b) ρ) : NoOw a ρ := fun i hi => h i (List.mem_append_left _ hi)
theorem noOw_r {a b : List Nat} {ρ : Env} (h : NoOw (a ++ b) ρ) : NoOw b ρ := fun i hi => h i (List.mem_append_right _ hi)

section
variable {P : Pm} {ct : Ct} {X : Cx} {k : Nat} {K : PySem.W.Frag} {O0 O : List Addr} {H0 H : Hp} {σ : L2.St} {ρ : Env}
theorem Sim.dm (S : Sim K P.w P.iw O0 H0 O H σ ρ) : Dm O H := S.dom
theorem Gd.gl (g : Gd P ct X k) {x : Str} (h : isGl ct x = true) : Gl X x := by
  unfold isGl at h
  show X.env.scope.names.lookup x = _
  rw [g.hsc]
  exact beq_iff_eq.mp h
theorem Gd.vis (g : Gd P ct X k) {x : Str} (h : isVis ct.sc x = true) : Vis X.env.scope x := by
  unfold isVis isLoc at h
  rw [g.hsc]
  simp only [Bool.or_eq_true, beq_iff_eq] at h
  rcases h with (h | h) | h
  · exact .inl h
  · exact .inr (.inl h)
  · exact .inr (.inr h)
theorem dbg {x : Str} (h : notDbg x = true) : (x == ("__debug__" : Str)) = false ∧ (x == ("__classdict__" : Str)) = false := by
  unfold notDbg at h
  simpa using h
theorem star_cons {e : Expr} {es : List Expr} {env : PySem.Env} (h : notStar e = true) : starEach (e :: es) env = (false, eval e env) :: starEach es env := by
  cases e <;> first | rfl | (simp [notStar] at h)

/-- a name, as a value that others may hold -/
theorem pe_nm (g : Gd P ct X k) {i : Nat} {x : Str} {pos : Pos} (h : (ct.N[i]? == some x && (isVis ct.sc x && notDbg x)) = true) : PE X (.Name x pos) (tVar i) := by
  rw [Bool.and_eq_true, Bool.and_eq_true] at h
  obtain ⟨h1, h2, h3⟩ := h
  obtain ⟨d1, d2⟩ := dbg h3
  exact pe_var (by rw [g.hN]; exact beq_iff_eq.mp h1) (g.vis h2) d1 d2
theorem snd_var {i : Nat} {e : Expr} (h : PE X e (tVar i)) : PE X e (tE P X.K (.var i)) := h.imp fun σ H Q q => by
  obtain ⟨O0, H0, O, ρ, R, S, es, hv, q⟩ := q
  obtain ⟨d, hd, r⟩ := wlift (show wM.lift (getV ρ i) R by unfold Pm.ev ev at hv; exact hv)
  obtain ⟨v, e1, b, f⟩ := S.var hd
  exact ⟨v, e1, q d v H r (Ext.refl S.wok) ⟨f (es i (by simp [esc])), fun z => by cases z⟩⟩
theorem sndB_var {i : Nat} {e : Expr} (h : PE X e (tVar i)) : PE X e (tB P X.K (.var i)) := h.imp fun σ H Q q => by
  obtain ⟨O0, H0, O, ρ, R, S, es, hv, q⟩ := q
  obtain ⟨d, hd, r⟩ := wlift (show wM.lift (getV ρ i) R by unfold Pm.ev ev at hv; exact hv)
  obtain ⟨v, e1, b, f⟩ := S.var hd
  refine ⟨v, e1, q d v H r (Ext.refl S.wok) b fun p ds z1 z2 z3 => ?_⟩
  subst z1
  subst z2
  rcases getV_sh hd with z | z
  · obtain ⟨v', e2, r⟩ := S.slot i _ z
    rw [e1] at e2
    cases e2
    cases r with | lst hs _ => exact absurd z3 (hid_out hs)
  · exact ⟨i, _, z, e1⟩
def E.isVar : E → Bool
  | .var _ => true
  | _ => false
theorem esc_eq {c : E} (h : c.isVar = false) : esc true c = esc false c := by
  cases c <;> first | rfl | (simp [E.isVar] at h)
/-- only looked at -/
theorem snd_B (g : Gd P ct X k) {c : E} {e : Expr} (hc : chkE ct c e = true) (h : PE X e (tE P X.K c)) : PE X e (tB P X.K c) := by
  cases hv : c.isVar with
  | true =>
    cases c <;> simp [E.isVar] at hv
    rename_i i
    unfold chkE at hc
    cases hn : vName e with
    | none => rw [hn] at hc; cases hc
    | some x =>
      rw [hn] at hc
      obtain ⟨p, rfl⟩ := vName_eq hn
      exact sndB_var (pe_nm g hc)
  | false =>
    refine h.imp fun σ H Q q => ?_
    obtain ⟨O0, H0, O, ρ, R, S, es, ev, q⟩ := q
    exact ⟨O0, H0, O, ρ, R, S, by rw [← esc_eq hv]; exact es, ev, fun d v H' hr he r => q d v H' hr he (.inl r.1) fun p ds z1 z2 z3 => by subst z1; subst z2; cases r.1 with | lst hs _ => exact absurd z3 (hid_out hs)⟩
/-- a constant -/
theorem snd_const {v : V} {d : D} {c : E} {e : Expr} (h : PE X e (tC v)) (hv : ∀ ρ, P.ev c ρ = fun R => R d) (hr : ∀ H, Rp X.K H v d) (hf : c.fresh = false) : PE X e (tE P X.K c) := h.imp fun σ H Q q => by
  obtain ⟨O0, H0, O, ρ, R, S, es, ev, q⟩ := q
  rw [hv] at ev
  exact q d v H ev (Ext.refl S.wok) ⟨hr _, fun z => by rw [hf] at z; cases z⟩
theorem snd_gl (g : Gd P ct X k) {n : Nat} {x : Str} {pos : Pos} (h1 : ct.gl.contains (n, x) = true) (h2 : isGl ct x = true) (h3 : notDbg x = true) : PE X (.Name x pos) (tE P X.K (.gl n)) := by
  obtain ⟨v, u, d, hm, r, hC, hr⟩ := g.gls n x (by simpa using h1)
  refine (pe_glob (g.gl h2) hm r (dbg h3).1).imp fun σ H Q q => ?_
  obtain ⟨O0, H0, O, ρ, R, S, es, ev, q⟩ := q
  obtain ⟨d', hd, rr⟩ := wlift (show wM.lift (P.C n) R by unfold Pm.ev PV.ev at ev; exact ev)
  rw [hC] at hd
  cases hd
  exact q d v H rr (Ext.refl S.wok) ⟨hr _, fun z => by cases z⟩

section
variable {a b c' : E} {x y z : Expr} {pos : Pos}
/-- two operands, then an operation by values that gives a datum -/
theorem two {f : Bool} {gg : D → D → Option D} {c : E} {r : R2} (hr : ∀ x y H Q, rD2 f X.K gg x y H Q → r x y H Q) (he : esc false c = esc true a ++ esc true b) (hf : c.fresh = true → f = true)
    (hv : ∀ ρ R, P.ev c ρ R → P.ev a ρ fun u => P.ev b ρ fun v => wM.lift (gg u v) R) {σ : L2.St} {H : Hp} {Q : VK} (q : tE P X.K c σ H Q) : tOp r (tB P X.K a) (tB P X.K b) σ H Q := by
  obtain ⟨O0, H0, O, ρ, R, S, es, ev, q⟩ := q
  rw [he] at es
  refine ⟨O0, H0, O, ρ, _, S, noOw_l es, hv ρ R ev, fun d u H1 hd e1 ba _ => ⟨O0, H0, O, ρ, _, S.ext e1, noOw_r es, hd, fun d' u' H2 hd' e2 bb _ => ?_⟩⟩
  obtain ⟨w, hw, hR⟩ := wlift hd'
  have S2 := (S.ext e1).ext e2
  refine hr _ _ _ _ ⟨O, d, d', w, S2.dom, ba.ext e2 S.wo e1.2, bb, hw, fun v H3 le rp fr => q w v H3 hR ((e1.trans e2).trans (Ext.of_le S2.wok le)) ⟨rp, fun z1 z2 => ?_⟩⟩
  exact (fr (hf z1) z2).back (e1.trans e2)
theorem snd_bin {o : Op2} (ha : PE X x (tB P X.K a)) (hb : PE X y (tB P X.K b)) : PE X (.BinOp x (binOp o) y pos) (tE P X.K (.bin o a b)) :=
  (pe_op (op_bin o) ha hb).imp fun σ H Q q => two (f := true) (gg := dBin o) (fun _ _ _ _ h => h) (by simp [esc]) (fun _ => rfl) (fun ρ R h => by unfold Pm.ev PV.ev at h; exact h) q
theorem snd_ix (ha : PE X x (tB P X.K a)) (hb : PE X y (tB P X.K b)) (hs : vSli y = none) : PE X (.Subscript x y pos) (tE P X.K (.ix a b)) :=
  (pe_ix op_ix ha hb (fun _ _ => by cases y <;> first | rfl | (simp [vSli] at hs))).imp fun σ H Q q => two (f := false) (gg := dIx) (fun _ _ _ _ h => h) (by simp [esc]) (fun h => by cases h) (fun ρ R h => by unfold Pm.ev PV.ev at h; exact h) q
theorem nomk {op : CmpOp} (h : notSet y = true) : behindInMarks op y = false := by
  cases y <;> first | rfl | (simp [notSet] at h)
/-- two operands, then a comparison -/
theorem twoC {gg : D → D → Option Bool} {ρ : Env} {R : Bool → Prop} {σ : L2.St} {H H0 : Hp} {O0 O : List Addr} {Q : VK} (S : Sim X.K P.w P.iw O0 H0 O H σ ρ) (es : NoOw (esc true a ++ esc true b) ρ)
    (ev : P.ev a ρ fun u => P.ev b ρ fun v => wM.lift (gg u v) R) (q : ∀ t H', R t → Ext P.w H H' → Q (.bl t) H') : tOp (rC2 X.K gg) (tB P X.K a) (tB P X.K b) σ H Q := by
  refine ⟨O0, H0, O, ρ, _, S, noOw_l es, ev, fun d u H1 hd e1 ba _ => ⟨O0, H0, O, ρ, _, S.ext e1, noOw_r es, hd, fun d' u' H2 hd' e2 bb _ => ?_⟩⟩
  obtain ⟨w, hw, hR⟩ := wlift hd'
  exact ⟨O, d, d', w, ba.ext e2 S.wo e1.2, bb, hw, q w H2 hR (e1.trans e2)⟩
theorem cmp_ev {c : Cm} {ρ : Env} {R : D → Prop} (h : P.ev (.cmp c a b) ρ R) : P.ev a ρ fun u => P.ev b ρ fun v => wM.lift (dCmp c u v) fun t => R (.bool t) := by
  unfold Pm.ev PV.ev at h
  have e : (fun u => PV.ev wM P.C P.F P.G b ρ fun v => wM.lift ((dCmp c u v).map PyData.bool) R) = fun u => PV.ev wM P.C P.F P.G b ρ fun v => wM.lift (dCmp c u v) fun t => R (.bool t) := by
    funext u
    exact congrArg (PV.ev wM P.C P.F P.G b ρ) (funext fun v => by cases dCmp c u v <;> rfl)
  have h' : PV.ev wM P.C P.F P.G a ρ (fun u => PV.ev wM P.C P.F P.G b ρ fun v => wM.lift ((dCmp c u v).map PyData.bool) R) := h
  rw [e] at h'
  exact h'
theorem snd_cmp (hr : Room k X.A) {c : Cm} (ha : PE X x (tB P X.K a)) (hb : PE X y (tB P X.K b)) (hs : notSet y = true) : PE X (.Compare x [cmOp c] [y] pos) (tE P X.K (.cmp c a b)) :=
  (pe_cmpR (op_cmp hr c) ha hb (nomk hs)).imp fun σ H Q q => by
    obtain ⟨O0, H0, O, ρ, R, S, es, ev, q⟩ := q
    exact twoC S (by simpa [esc] using es) (cmp_ev ev) fun t H' hR e => q (.bool t) (.bl t) H' hR e ⟨.bl t, fun _ z => by cases z⟩
theorem sndT_cmp (hr : Room k X.A) {c : Cm} (ha : PE X x (tB P X.K a)) (hb : PE X y (tB P X.K b)) (hs : notSet y = true) : PT X (.Compare x [cmOp c] [y] pos) (tT P X.K (.cmp c a b)) :=
  (pt_cmpR (op_cmp hr c) ha hb (nomk hs)).imp fun σ H Q q => by
    obtain ⟨O0, H0, O, ρ, R, S, es, ev, q⟩ := q
    refine twoC S (by simpa [esc] using es) (cmp_ev ev) fun t H' hR e => ?_
    obtain ⟨b, hb, q⟩ := q (.bool t) H' hR e
    cases hb
    exact ⟨_, rfl, q⟩
end
end
end PV

set_option maxHeartbeats 4000000
/-! PV: the small forms of expressions. -/
namespace PV
open PySem L2

theorem wbool {β : Type} {o : Option Bool} {f : Bool → W β} {R : β → Prop} (h : wM.bind (wM.lift o) f R) : ∃ b, o = some b ∧ f b R := wlift h
theorem wbind {α β : Type} {o : Option α} {f : α → W β} {R : β → Prop} (h : wM.bind (wM.lift o) f R) : ∃ b, o = some b ∧ f b R := wlift h
theorem wmap {α β : Type} {o : Option α} {g : α → β} {R : β → Prop} (h : wM.lift (o.map g) R) : ∃ b, o = some b ∧ R (g b) := by
  cases o with
  | none => exact False.elim h
  | some b => exact ⟨b, rfl, h⟩
theorem bool_some {d : D} {b : Bool} (h : bool? d = some b) : d = .bool b := by
  cases d <;> simp [bool?] at h
  subst h
  rfl
theorem int_some {d : D} {b : Int} (h : int? d = some b) : d = .int b := by
  cases d <;> simp [int?] at h
  subst h
  rfl
theorem noOw_B {c : E} {ρ : Env} (h : NoOw (esc false c) ρ) : NoOw (esc true c) ρ := by
  cases hv : c.isVar with
  | true =>
    cases c <;> simp [E.isVar] at hv
    intro i hi
    simp [esc] at hi
  | false =>
    rw [esc_eq hv]
    exact h
section
variable {P : Pm} {ct : Ct} {X : Cx} {k : Nat} {a b c d : E} {x y z u : Expr} {pos : Pos}
/-- as a test -/
theorem pt_of_B (h : PE X x (tB P X.K a)) (hn : ∀ whole, isTrue x X.env whole = (do let v ← whole; standAt x.pos; holding [v] (truthy v))) : PT X x (tT P X.K a) := by
  refine ⟨fun pins s σ H Q I q => ?_⟩
  refine (pt_val h hn).run pins s σ H Q I ?_
  obtain ⟨O0, H0, O, ρ, R, S, es, ev, q⟩ := q
  refine ⟨O0, H0, O, ρ, R, S, es, ev, fun d v H' hd e ba _ => ?_⟩
  obtain ⟨b, hb, q⟩ := q d H' hd e
  rw [bool_some hb] at ba
  exact ⟨b, ba.bl, q⟩
theorem notTest_eq {env : PySem.Env} (h : notTest x = true) (whole : Sem Value) : isTrue x env whole = (do let v ← whole; standAt x.pos; holding [v] (truthy v)) := by
  cases x with
  | UnaryOp op y p =>
    cases op with
    | Not => cases h
    | _ => rfl
  | BoolOp _ _ _ => cases h
  | IfExp _ _ _ _ => cases h
  | Compare _ _ _ _ => cases h
  | _ => rfl
theorem snd_neg (ha : PE X x (tB P X.K a)) : PE X (.UnaryOp .USub x pos) (tE P X.K (.neg a)) :=
  (pe_un un_neg ha).imp fun σ H Q q => by
    obtain ⟨O0, H0, O, ρ, R, S, es, ev, q⟩ := q
    have ev : P.ev a ρ fun x => wM.lift ((int? x).map fun i => PyData.int (-i)) R := by unfold Pm.ev PV.ev at ev; exact ev
    refine ⟨O0, H0, O, ρ, _, S, by simpa [esc] using es, ev, fun d v H' hd e ba _ => ?_⟩
    obtain ⟨i, hi, hR⟩ := wmap hd
    rw [int_some hi] at ba
    exact ⟨i, ba.int, q _ _ H' hR e ⟨.int _, fun _ z => by cases z⟩⟩
theorem ev_not {ρ : Env} {R : D → Prop} (ev : P.ev (.not a) ρ R) : P.ev a ρ fun x => ∃ b, bool? x = some b ∧ R (.bool (!b)) := by
  have h : P.ev a ρ fun x => wM.lift ((bool? x).map fun b => PyData.bool (!b)) R := by unfold Pm.ev PV.ev at ev; exact ev
  have e : (fun x => wM.lift ((bool? x).map fun b => PyData.bool (!b)) R) = fun x => ∃ b, bool? x = some b ∧ R (.bool (!b)) := by
    funext x
    cases hb : bool? x with
    | none => exact propext ⟨fun z => False.elim z, fun ⟨b, e, _⟩ => by cases e⟩
    | some b => exact propext ⟨fun z => ⟨b, rfl, z⟩, fun ⟨c, e, z⟩ => by cases e; exact z⟩
  rw [e] at h
  exact h
theorem snd_not (ha : PE X x (tB P X.K a)) : PE X (.UnaryOp .Not x pos) (tE P X.K (.not a)) :=
  (pe_not ha).imp fun σ H Q q => by
    obtain ⟨O0, H0, O, ρ, R, S, es, ev, q⟩ := q
    refine ⟨O0, H0, O, ρ, _, S, by simpa [esc] using es, ev_not ev, fun d v H' hd e ba _ => ?_⟩
    obtain ⟨i, hi, hR⟩ := hd
    rw [bool_some hi] at ba
    exact ⟨i, ba.bl, q _ _ H' hR e ⟨.bl _, fun _ z => by cases z⟩⟩
theorem sndT_not (ha : PT X x (tT P X.K a)) : PT X (.UnaryOp .Not x pos) (tT P X.K (.not a)) :=
  (pt_not ha).imp fun σ H Q q => by
    obtain ⟨O0, H0, O, ρ, R, S, es, ev, q⟩ := q
    refine ⟨O0, H0, O, ρ, _, S, by simpa [esc] using es, ev_not ev, fun d H' hd e => ?_⟩
    obtain ⟨i, hi, hR⟩ := hd
    obtain ⟨b, hb, q⟩ := q _ H' hR e
    cases hb
    exact ⟨i, hi, q⟩
/-! and, or -/
theorem ev_and {ρ : Env} {R : D → Prop} (ev : P.ev (.and a b) ρ R) : P.ev a ρ fun x => ∃ t, bool? x = some t ∧ if t = true then P.ev b ρ R else R (.bool false) := by
  have h : P.ev a ρ fun x => wM.bind (wM.lift (bool? x)) (fun t => if t = true then PV.ev wM P.C P.F P.G b ρ else wM.pure (.bool false)) R := by unfold Pm.ev PV.ev at ev; exact ev
  have e : (fun x => wM.bind (wM.lift (bool? x)) (fun t => if t = true then PV.ev wM P.C P.F P.G b ρ else wM.pure (.bool false)) R) = fun x => ∃ t, bool? x = some t ∧ if t = true then P.ev b ρ R else R (.bool false) := by
    funext x
    cases hb : bool? x with
    | none => exact propext ⟨fun z => False.elim z, fun ⟨b, e, _⟩ => by cases e⟩
    | some b => exact propext ⟨fun z => ⟨b, rfl, by cases b <;> exact z⟩, fun ⟨c, e, z⟩ => by cases e; cases b <;> exact z⟩
  rw [e] at h
  exact h
theorem ev_or {ρ : Env} {R : D → Prop} (ev : P.ev (.or a b) ρ R) : P.ev a ρ fun x => ∃ t, bool? x = some t ∧ if t = true then R (.bool true) else P.ev b ρ R := by
  have h : P.ev a ρ fun x => wM.bind (wM.lift (bool? x)) (fun t => if t = true then wM.pure (.bool true) else PV.ev wM P.C P.F P.G b ρ) R := by unfold Pm.ev PV.ev at ev; exact ev
  have e : (fun x => wM.bind (wM.lift (bool? x)) (fun t => if t = true then wM.pure (.bool true) else PV.ev wM P.C P.F P.G b ρ) R) = fun x => ∃ t, bool? x = some t ∧ if t = true then R (.bool true) else P.ev b ρ R := by
    funext x
    cases hb : bool? x with
    | none => exact propext ⟨fun z => False.elim z, fun ⟨b, e, _⟩ => by cases e⟩
    | some b => exact propext ⟨fun z => ⟨b, rfl, by cases b <;> exact z⟩, fun ⟨c, e, z⟩ => by cases e; cases b <;> exact z⟩
  rw [e] at h
  exact h
theorem ev_ife {t : E} {ρ : Env} {R : D → Prop} (ev : P.ev (.ife t a b) ρ R) : P.ev t ρ fun x => ∃ t, bool? x = some t ∧ if t = true then P.ev a ρ R else P.ev b ρ R := by
  have h : P.ev t ρ fun x => wM.bind (wM.lift (bool? x)) (fun t => if t = true then PV.ev wM P.C P.F P.G a ρ else PV.ev wM P.C P.F P.G b ρ) R := by unfold Pm.ev PV.ev at ev; exact ev
  have e : (fun x => wM.bind (wM.lift (bool? x)) (fun t => if t = true then PV.ev wM P.C P.F P.G a ρ else PV.ev wM P.C P.F P.G b ρ) R) = fun x => ∃ t, bool? x = some t ∧ if t = true then P.ev a ρ R else P.ev b ρ R := by
    funext x
    cases hb : bool? x with
    | none => exact propext ⟨fun z => False.elim z, fun ⟨b, e, _⟩ => by cases e⟩
    | some b => exact propext ⟨fun z => ⟨b, rfl, by cases b <;> exact z⟩, fun ⟨c, e, z⟩ => by cases e; cases b <;> exact z⟩
  rw [e] at h
  exact h
theorem snd_and {rest : List Expr} (ha : PE X x (tE P X.K a)) (hb : PE X (.BoolOp .And (y :: rest) pos) (tE P X.K b)) : PE X (.BoolOp .And (x :: y :: rest) pos) (tE P X.K (.and a b)) :=
  (pe_and ha hb).imp fun σ H Q q => by
    obtain ⟨O0, H0, O, ρ, R, S, es, ev, q⟩ := q
    have es : NoOw (esc false a ++ esc false b) ρ := by simpa [esc] using es
    refine ⟨O0, H0, O, ρ, _, S, noOw_l es, ev_and ev, fun d v H' hd e ba => ?_⟩
    obtain ⟨t, ht, hR⟩ := hd
    obtain ⟨r, _⟩ := ba
    rw [bool_some ht] at r
    cases r
    refine ⟨t, rfl, ?_⟩
    cases t with
    | false => exact q _ _ H' hR e ⟨.bl _, fun z => by cases z⟩
    | true => exact ⟨O0, H0, O, ρ, R, S.ext e, noOw_r es, hR, fun d v H2 hd e2 r => q d v H2 hd (e.trans e2) ⟨r.1, fun z => by cases z⟩⟩
theorem snd_or {rest : List Expr} (ha : PE X x (tE P X.K a)) (hb : PE X (.BoolOp .Or (y :: rest) pos) (tE P X.K b)) : PE X (.BoolOp .Or (x :: y :: rest) pos) (tE P X.K (.or a b)) :=
  (pe_or ha hb).imp fun σ H Q q => by
    obtain ⟨O0, H0, O, ρ, R, S, es, ev, q⟩ := q
    have es : NoOw (esc false a ++ esc false b) ρ := by simpa [esc] using es
    refine ⟨O0, H0, O, ρ, _, S, noOw_l es, ev_or ev, fun d v H' hd e ba => ?_⟩
    obtain ⟨t, ht, hR⟩ := hd
    obtain ⟨r, _⟩ := ba
    rw [bool_some ht] at r
    cases r
    refine ⟨t, rfl, ?_⟩
    cases t with
    | true => exact q _ _ H' hR e ⟨.bl _, fun z => by cases z⟩
    | false => exact ⟨O0, H0, O, ρ, R, S.ext e, noOw_r es, hR, fun d v H2 hd e2 r => q d v H2 hd (e.trans e2) ⟨r.1, fun z => by cases z⟩⟩
theorem sndT_and {rest : List Expr} (ha : PT X x (tT P X.K a)) (hb : PW X (.BoolOp .And (y :: rest) pos) (tT P X.K b)) : PW X (.BoolOp .And (x :: y :: rest) pos) (tT P X.K (.and a b)) :=
  (pw_and ha hb).imp fun σ H Q q => by
    obtain ⟨O0, H0, O, ρ, R, S, es, ev, q⟩ := q
    have es : NoOw (esc false a ++ esc false b) ρ := by simpa [esc] using es
    refine ⟨O0, H0, O, ρ, _, S, noOw_B (noOw_l es), ev_and ev, fun d H' hd e => ?_⟩
    obtain ⟨t, ht, hR⟩ := hd
    refine ⟨t, ht, ?_⟩
    cases t with
    | false =>
      obtain ⟨b, hb, q⟩ := q _ H' hR e
      cases hb
      exact q
    | true => exact ⟨O0, H0, O, ρ, R, S.ext e, noOw_B (noOw_r es), hR, fun d H2 hd e2 => q d H2 hd (e.trans e2)⟩
theorem sndT_or {rest : List Expr} (ha : PT X x (tT P X.K a)) (hb : PW X (.BoolOp .Or (y :: rest) pos) (tT P X.K b)) : PW X (.BoolOp .Or (x :: y :: rest) pos) (tT P X.K (.or a b)) :=
  (pw_or ha hb).imp fun σ H Q q => by
    obtain ⟨O0, H0, O, ρ, R, S, es, ev, q⟩ := q
    have es : NoOw (esc false a ++ esc false b) ρ := by simpa [esc] using es
    refine ⟨O0, H0, O, ρ, _, S, noOw_B (noOw_l es), ev_or ev, fun d H' hd e => ?_⟩
    obtain ⟨t, ht, hR⟩ := hd
    refine ⟨t, ht, ?_⟩
    cases t with
    | true =>
      obtain ⟨b, hb, q⟩ := q _ H' hR e
      cases hb
      exact q
    | false => exact ⟨O0, H0, O, ρ, R, S.ext e, noOw_B (noOw_r es), hR, fun d H2 hd e2 => q d H2 hd (e.trans e2)⟩
theorem pw_of {o : BoolOp} {vs : List Expr} {t : TT} (h : PT X (.BoolOp o vs pos) t) : PW X (.BoolOp o vs pos) t := ⟨fun wh pins s σ H Q I q => by
  have e : isTrue (.BoolOp o vs pos) X.env wh = isTrue (.BoolOp o vs pos) X.env (eval (.BoolOp o vs pos) X.env) := rfl
  rw [e]
  exact h.run pins s σ H Q I q⟩
theorem snd_ife {t : E} (ht : PT X z (tT P X.K t)) (ha : PE X x (tE P X.K a)) (hb : PE X y (tE P X.K b)) : PE X (.IfExp z x y pos) (tE P X.K (.ife t a b)) :=
  (pe_ifExp ht ha hb).imp fun σ H Q q => by
    obtain ⟨O0, H0, O, ρ, R, S, es, ev, q⟩ := q
    have es : NoOw (esc true t ++ (esc false a ++ esc false b)) ρ := by simpa [esc] using es
    refine ⟨O0, H0, O, ρ, _, S, noOw_l es, ev_ife ev, fun d H' hd e => ?_⟩
    obtain ⟨t, ht, hR⟩ := hd
    refine ⟨t, ht, ?_⟩
    cases t with
    | true => exact ⟨O0, H0, O, ρ, R, S.ext e, noOw_l (noOw_r es), hR, fun d v H2 hd e2 r => q d v H2 hd (e.trans e2) ⟨r.1, fun z => by cases z⟩⟩
    | false => exact ⟨O0, H0, O, ρ, R, S.ext e, noOw_r (noOw_r es), hR, fun d v H2 hd e2 r => q d v H2 hd (e.trans e2) ⟨r.1, fun z => by cases z⟩⟩
theorem pt_ife {tA tB' tC' : TT} (ht : PT X z tA) (ha : PT X x tB') (hb : PT X y tC') : PT X (.IfExp z x y pos) (fun σ H Q => tA σ H fun t H1 => if t = true then tB' σ H1 Q else tC' σ H1 Q) := by
  refine ⟨fun pins s σ H Q I q => ?_⟩
  have e : ∀ wh, isTrue (.IfExp z x y pos) X.env wh = (do if ← isTrue z X.env (eval z X.env) then isTrue x X.env (eval x X.env) else isTrue y X.env (eval y X.env)) := fun wh => rfl
  rw [e]
  refine wpAny_bind (thn (ht.run pins s σ H _ I q) fun t s1 ⟨H1, I1, q1⟩ => ?_)
  cases t with
  | true => exact ha.run pins s1 σ H1 Q I1 q1
  | false => exact hb.run pins s1 σ H1 Q I1 q1
theorem sndT_ife {t : E} (ht : PT X z (tT P X.K t)) (ha : PT X x (tT P X.K a)) (hb : PT X y (tT P X.K b)) : PT X (.IfExp z x y pos) (tT P X.K (.ife t a b)) :=
  (pt_ife ht ha hb).imp fun σ H Q q => by
    obtain ⟨O0, H0, O, ρ, R, S, es, ev, q⟩ := q
    have es : NoOw (esc true t ++ (esc false a ++ esc false b)) ρ := by simpa [esc] using es
    refine ⟨O0, H0, O, ρ, _, S, noOw_l es, ev_ife ev, fun d H' hd e => ?_⟩
    obtain ⟨t, ht, hR⟩ := hd
    refine ⟨t, ht, ?_⟩
    cases t with
    | true => exact ⟨O0, H0, O, ρ, R, S.ext e, noOw_B (noOw_l (noOw_r es)), hR, fun d H2 hd e2 => q d H2 hd (e.trans e2)⟩
    | false => exact ⟨O0, H0, O, ρ, R, S.ext e, noOw_B (noOw_r (noOw_r es)), hR, fun d H2 hd e2 => q d H2 hd (e.trans e2)⟩
/-! a op b op c -/
theorem ev_chain {c1 c2 : Cm} {ρ : Env} {R : D → Prop} (ev : P.ev (.chain c1 c2 a b d) ρ R) : P.ev a ρ fun x => P.ev b ρ fun y => ∃ t, dCmp c1 x y = some t ∧ if t = true then P.ev d ρ fun z => ∃ t, dCmp c2 y z = some t ∧ R (.bool t) else R (.bool false) := by
  have h : P.ev a ρ fun x => P.ev b ρ fun y => wM.bind (wM.lift (dCmp c1 x y)) (fun t => if t = true then wM.bind (PV.ev wM P.C P.F P.G d ρ) (fun z => wM.lift ((dCmp c2 y z).map .bool)) else wM.pure (.bool false)) R := by unfold Pm.ev PV.ev at ev; exact ev
  have e2 : ∀ y, (fun z => wM.lift ((dCmp c2 y z).map PyData.bool) R) = fun z => ∃ t, dCmp c2 y z = some t ∧ R (.bool t) := fun y => by
    funext x
    cases hb : dCmp c2 y x with
    | none => exact propext ⟨fun z => False.elim z, fun ⟨b, e, _⟩ => by cases e⟩
    | some b => exact propext ⟨fun z => ⟨b, rfl, z⟩, fun ⟨c, e, z⟩ => by cases e; exact z⟩
  have e : (fun x => P.ev b ρ fun y => wM.bind (wM.lift (dCmp c1 x y)) (fun t => if t = true then wM.bind (PV.ev wM P.C P.F P.G d ρ) (fun z => wM.lift ((dCmp c2 y z).map .bool)) else wM.pure (.bool false)) R) =
      fun x => P.ev b ρ fun y => ∃ t, dCmp c1 x y = some t ∧ if t = true then P.ev d ρ fun z => ∃ t, dCmp c2 y z = some t ∧ R (.bool t) else R (.bool false) := by
    funext x
    refine congrArg (P.ev b ρ) (funext fun y => ?_)
    rw [← e2 y]
    cases hb : dCmp c1 x y with
    | none => exact propext ⟨fun z => False.elim z, fun ⟨b, e, _⟩ => by cases e⟩
    | some b => exact propext ⟨fun z => ⟨b, rfl, by cases b <;> exact z⟩, fun ⟨c, e, z⟩ => by cases e; cases b <;> exact z⟩
  rw [e] at h
  exact h
theorem chain_q {c1 c2 : Cm} {σ : L2.St} {H H0 : Hp} {O0 O : List Addr} {Q : VK} {ρ : Env} {R : D → Prop} (S : Sim X.K P.w P.iw O0 H0 O H σ ρ) (es : NoOw (esc true a ++ (esc true b ++ esc true d)) ρ) (ev : P.ev (.chain c1 c2 a b d) ρ R)
    (q : ∀ t H', R (.bool t) → Ext P.w H H' → Q (.bl t) H') : tChain (rC2 X.K (dCmp c1)) (rC2 X.K (dCmp c2)) (tB P X.K a) (tB P X.K b) (tB P X.K d) σ H Q := by
  refine ⟨O0, H0, O, ρ, _, S, noOw_l es, ev_chain ev, fun d1 v1 H1 hd e1 b1 _ => ⟨O0, H0, O, ρ, _, S.ext e1, noOw_l (noOw_r es), hd, fun d2 v2 H2 hd e2 b2 _ => ?_⟩⟩
  obtain ⟨t, ht, hR⟩ := hd
  refine ⟨O, d1, d2, t, b1.ext e2 S.wo e1.2, b2, ht, t, rfl, ?_⟩
  cases t with
  | false => exact q false H2 hR (e1.trans e2)
  | true =>
    refine ⟨O0, H0, O, ρ, _, (S.ext e1).ext e2, noOw_r (noOw_r es), hR, fun d3 v3 H3 hd e3 b3 _ => ?_⟩
    obtain ⟨t, ht, hR⟩ := hd
    exact ⟨O, d2, d3, t, b2.ext e3 S.wo e2.2, b3, ht, q t H3 hR ((e1.trans e2).trans e3)⟩
theorem lastM {o o' : CmpOp} (h : notSet z = true) : lastMarks [o, o'] [y, z] = false := by
  show behindInMarks o' z = false
  exact nomk h
theorem snd_chain (hr : Room k X.A) {c1 c2 : Cm} (ha : PE X x (tB P X.K a)) (hb : PE X y (tB P X.K b)) (hd : PE X z (tB P X.K d)) (hs : notSet z = true) : PE X (.Compare x [cmOp c1, cmOp c2] [y, z] pos) (tE P X.K (.chain c1 c2 a b d)) :=
  (pe_chain (op_cmp hr c1) (op_cmp hr c2) ha hb hd (lastM hs)).imp fun σ H Q q => by
    obtain ⟨O0, H0, O, ρ, R, S, es, ev, q⟩ := q
    exact chain_q S (by simpa [esc] using es) ev fun t H' hR e => q _ _ H' hR e ⟨.bl t, fun _ z => by cases z⟩
theorem sndT_chain (hr : Room k X.A) {c1 c2 : Cm} (ha : PE X x (tB P X.K a)) (hb : PE X y (tB P X.K b)) (hd : PE X z (tB P X.K d)) (hs : notSet z = true) : PT X (.Compare x [cmOp c1, cmOp c2] [y, z] pos) (tT P X.K (.chain c1 c2 a b d)) :=
  (pt_chain (op_cmp hr c1) (op_cmp hr c2) ha hb hd (lastM hs)).imp fun σ H Q q => by
    obtain ⟨O0, H0, O, ρ, R, S, es, ev, q⟩ := q
    refine chain_q S (by simpa [esc] using es) ev fun t H' hR e => ?_
    obtain ⟨b, hb, q⟩ := q _ H' hR e
    cases hb
    exact ⟨_, rfl, q⟩
/-! several -/
theorem snd_nil : PA X [] (tEs P X.K .nil) := pa_nil.imp fun σ H Q q => by
  obtain ⟨O0, H0, O, ρ, R, S, es, ev, q⟩ := q
  have ev : R [] := by unfold Pm.evs PV.evs at ev; exact ev
  exact q [] [] H ev (Ext.refl S.wok) .nil rfl
theorem snd_cons {xs : List Expr} {cs : Es} (hn : notStar x = true) (ha : PE X x (tE P X.K a)) (hb : PA X xs (tEs P X.K cs)) : PA X (x :: xs) (tEs P X.K (.cons a cs)) :=
  (pa_cons ha hb (star_cons hn)).imp fun σ H Q q => by
    obtain ⟨O0, H0, O, ρ, R, S, es, ev, q⟩ := q
    have es : NoOw (esc false a ++ escs cs) ρ := by simpa [escs] using es
    have ev : P.ev a ρ fun d => P.evs cs ρ fun ds => R (d :: ds) := by unfold Pm.evs PV.evs at ev; exact ev
    refine ⟨O0, H0, O, ρ, _, S, noOw_l es, ev, fun d v H1 hd e1 r => ⟨O0, H0, O, ρ, _, S.ext e1, noOw_r es, hd, fun ds vs H2 hd e2 rs hl => ?_⟩⟩
    exact q _ _ H2 hd (e1.trans e2) (.cons (r.1.mono (e2.hid S.wo)) rs) (by simp [Es.len, hl])
theorem snd_tup {xs : List Expr} {cs : Es} {j : Nat} (h : PA X xs (tEs P X.K cs)) (hl : cs.len ≤ 1000) : PE X (.Tuple xs j pos) (tE P X.K (.tup cs)) :=
  (pe_tup h).imp fun σ H Q q => by
    obtain ⟨O0, H0, O, ρ, R, S, es, ev, q⟩ := q
    have ev : P.evs cs ρ fun ds => R (.tuple ds) := by unfold Pm.ev PV.ev at ev; exact ev
    refine ⟨O0, H0, O, ρ, _, S, by simpa [esc] using es, ev, fun ds vs H1 hd e1 rs hv => ⟨by rw [hv, sizeLine_eq]; omega, fun p hp => ?_⟩⟩
    have S1 := S.ext e1
    refine q _ _ _ hd (e1.trans (Ext.new S1.wok hp)) ⟨?_, fun z => by cases z⟩
    exact .tup (.inl (.inl (hid_in (fun hm => S1.dom p hm hp) (by simp [upd])))) (rs.mono (hid_le_mono (Le.new hp)))
theorem snd_lst {xs : List Expr} {cs : Es} (h : PA X xs (tEs P X.K cs)) (hl : cs.len ≤ 1000) : PE X (.List xs pos) (tE P X.K (.lst cs)) :=
  (pe_lst h).imp fun σ H Q q => by
    obtain ⟨O0, H0, O, ρ, R, S, es, ev, q⟩ := q
    have ev : P.evs cs ρ fun ds => R (.list ds) := by unfold Pm.ev PV.ev at ev; exact ev
    refine ⟨O0, H0, O, ρ, _, S, by simpa [esc] using es, ev, fun ds vs H1 hd e1 rs hv => ⟨by rw [hv, sizeLine_eq]; omega, fun p hp => ?_⟩⟩
    have S1 := S.ext e1
    refine q _ _ _ hd (e1.trans (Ext.new S1.wok hp)) ⟨?_, fun _ _ => ?_⟩
    · exact .lst (hid_in (fun hm => S1.dom p hm hp) (by simp [upd])) (rs.mono (hid_le_mono (Le.new hp)))
    · exact FrP.back (H1 := H1) ⟨p, vs, ds, rfl, rfl, hp, by simp [upd], rs.mono (hid_cons_new hp)⟩ e1
/-! slices -/
def tO (P : Pm) (K : PySem.W.Frag) (c : E) : TO := fun σ H Q => ∃ O0 H0 O ρ R, Sim K P.w P.iw O0 H0 O H σ ρ ∧ NoOw (esc true c) ρ ∧ P.ev c ρ R ∧ ∀ d H', R d → Ext P.w H H' → ∃ o, bound? c d = some o ∧ Q o H'
theorem po_imp {e : Option Expr} {t t' : TO} (h : PO X e t') (k : ∀ σ H Q, t σ H Q → t' σ H Q) : PO X e t := ⟨fun pins s σ H Q I q => h.run pins s σ H Q I (k σ H Q q)⟩
theorem po_no : PO X none (tO P X.K .none) := po_imp po_none fun σ H Q q => by
  obtain ⟨O0, H0, O, ρ, R, S, es, ev, q⟩ := q
  have ev : R .none := by unfold Pm.ev PV.ev at ev; exact ev
  obtain ⟨o, ho, q⟩ := q _ H ev (Ext.refl S.wok)
  cases ho
  exact q
theorem po_yes (h : PE X x (tB P X.K a)) (hn : ∀ d o, bound? a d = some o → ∃ i, d = .int i ∧ o = some i) : PO X (some x) (tO P X.K a) := po_imp (po_some h) fun σ H Q q => by
  obtain ⟨O0, H0, O, ρ, R, S, es, ev, q⟩ := q
  refine ⟨O0, H0, O, ρ, R, S, es, ev, fun d v H' hd e ba _ => ?_⟩
  obtain ⟨o, ho, q⟩ := q _ H' hd e
  obtain ⟨i, rfl, rfl⟩ := hn d o ho
  exact ⟨i, ba.int, q⟩
theorem bnd_int {c : E} (hc : (match c with | .none => false | _ => true) = true) {d : D} {o : Option Int} (h : bound? c d = some o) : ∃ i, d = .int i ∧ o = some i := by
  cases c with
  | none => cases hc
  | _ => cases d <;> simp [bound?] at h <;> exact ⟨_, rfl, h.symm⟩
theorem snd_sl {lo hi : E} {l h' : Option Expr} {p2 : Pos} (ha : PE X x (tB P X.K a)) (hl : PO X l (tO P X.K lo)) (hh : PO X h' (tO P X.K hi)) : PE X (.Subscript x (.Slice l h' none p2) pos) (tE P X.K (.sl a lo hi)) :=
  (pe_slice op_sl ha hl hh).imp fun σ H Q q => by
    obtain ⟨O0, H0, O, ρ, R, S, es, ev, q⟩ := q
    have es : NoOw (esc true a ++ (esc true lo ++ esc true hi)) ρ := by simpa [esc] using es
    have ev : P.ev a ρ fun x => P.ev lo ρ fun y => wM.bind (wM.lift (bound? lo y)) (fun l => wM.bind (PV.ev wM P.C P.F P.G hi ρ) fun z => wM.bind (wM.lift (bound? hi z)) fun h => wM.lift (dSl x l h)) R := by unfold Pm.ev PV.ev at ev; exact ev
    refine ⟨O0, H0, O, ρ, _, S, noOw_l es, ev, fun d1 v1 H1 hd e1 b1 _ => ⟨O0, H0, O, ρ, _, S.ext e1, noOw_l (noOw_r es), hd, fun d2 H2 hd e2 => ?_⟩⟩
    obtain ⟨l, hl, hd⟩ := wbind hd
    refine ⟨l, hl, O0, H0, O, ρ, _, (S.ext e1).ext e2, noOw_r (noOw_r es), hd, fun d3 H3 hd e3 => ?_⟩
    obtain ⟨h, hh, hd⟩ := wbind hd
    obtain ⟨w, hw, hR⟩ := wlift hd
    have S3 := ((S.ext e1).ext e2).ext e3
    refine ⟨h, hh, O, d1, w, S3.dom, b1.ext (e2.trans e3) S.wo e1.2, hw, fun v H4 le rp fr => q w v H4 hR (((e1.trans e2).trans e3).trans (Ext.of_le S3.wok le)) ⟨rp, fun _ z2 => ?_⟩⟩
    exact (fr rfl z2).back ((e1.trans e2).trans e3)
theorem snd_rev {k : Nat} {p1 p2 p3 : Pos} (ha : PE X x (tB P X.K a)) : PE X (.Subscript x (.Slice none none (some (.UnaryOp .USub (.Constant (.int 1) k p1) p2)) p3) pos) (tE P X.K (.rev a)) :=
  (pe_rv ha).imp fun σ H Q q => by
    obtain ⟨O0, H0, O, ρ, R, S, es, ev, q⟩ := q
    have es : NoOw (esc true a) ρ := by simpa [esc] using es
    have ev : P.ev a ρ fun x => wM.lift (dRev x) R := by unfold Pm.ev PV.ev at ev; exact ev
    refine ⟨O0, H0, O, ρ, _, S, es, ev, fun d1 v1 H1 hd e1 b1 _ => ?_⟩
    obtain ⟨w, hw, hR⟩ := wlift hd
    have S1 := S.ext e1
    refine ⟨O, d1, w, S1.dom, b1, hw, fun v H4 le rp fr => q w v H4 hR (e1.trans (Ext.of_le S1.wok le)) ⟨rp, fun _ z2 => ?_⟩⟩
    exact (fr rfl z2).back e1
/-! calls -/
theorem snd_call (g : Gd P ct X k) {xs : List Expr} {cs : Es} {f n : Nat} {nm : Str} {p : Pos} (hf : ct.fs.contains (f, nm, n, false) = true) (hg : isGl ct nm = true) (hd : notDbg nm = true) (hs : notStar x = true) (hp : (backTo pos (starEach xs X.env)).any (·.1) = false)
    (h : PA X (x :: xs) (tEs P X.K cs)) (hn : cs.len = n) : PE X (.Call (.Name nm p) (x :: xs) [] pos) (tE P X.K (.call f cs)) := by
  obtain ⟨a, fd, ps, hm, hk, hb, F⟩ := g.fns f nm n false (by simpa using hf)
  rw [if_neg (by simp)] at F
  refine (pe_call (dvs := []) (E := E0) F g.room (g.gl hg) hm hk hb .nil pass0 h (dbg hd).1 (star_cons hs) hp).imp fun σ H Q q => ?_
  obtain ⟨O0, H0, O, ρ, R, S, es, ev, q⟩ := q
  have ev : P.evs cs ρ fun ds => P.F f ds R := by unfold Pm.ev PV.ev at ev; exact ev
  refine ⟨O0, H0, O, ρ, _, S, by simpa [esc] using es, ev, fun ds vs H1 hd e1 rs hv => ?_⟩
  have S1 := S.ext e1
  show spF n (P.F f) X.K (vs ++ []) H1 Q E0
  rw [List.append_nil]
  exact ⟨by rw [hv, hn], O, ds, R, S1.dom, rs, hd, fun d v H' hR le r => q d v H' hR (e1.trans (Ext.of_le S1.wok le)) ⟨r, fun z => by cases z⟩⟩
theorem snd_callw (g : Gd P ct X k) {xs : List Expr} {cs : Es} {f n : Nat} {nm zn : Str} {p pz : Pos} (hf : ct.fs.contains (f, nm, n, true) = true) (hg : isGl ct nm = true) (hd : notDbg nm = true) (hp : (backTo pos (starEach xs X.env)).any (·.1) = false)
    (hz : (ct.N[ct.iw]? == some zn && (isVis ct.sc zn && notDbg zn)) = true) (h : PA X xs (tEs P X.K cs)) (hn : cs.len + 1 = n) : PE X (.Call (.Name nm p) (.Name zn pz :: xs) [] pos) (tE P X.K (.callw f cs)) := by
  obtain ⟨a, fd, ps, hm, hk, hb, F⟩ := g.fns f nm n true (by simpa using hf)
  rw [if_pos rfl] at F
  refine (pe_call (dvs := []) (E := E0) F g.room (g.gl hg) hm hk hb .nil pass0 (pa_cons (pe_nm g hz) h) (dbg hd).1 rfl hp).imp fun σ H Q q => ?_
  obtain ⟨O0, H0, O, ρ, R, S, es, ev, q⟩ := q
  have ev : P.evs cs ρ fun ds => P.G f ds R := by unfold Pm.ev PV.ev at ev; exact ev
  obtain ⟨t, ht⟩ := Option.isSome_iff_exists.mp (g.hws f nm n (by simpa using hf))
  refine ⟨.ref t.1, by rw [g.hiw]; exact (S.wS t ht).1, O0, H0, O, ρ, _, S, by simpa [esc] using es, ev, fun ds vs H1 hd e1 rs hv => ?_⟩
  have S1 := S.ext e1
  show spG n (P.G f) X.K ((V.ref t.1 :: vs) ++ []) H1 Q E0
  rw [List.append_nil]
  refine ⟨by rw [List.length_cons, hv, hn], t, O, ds, R, vs, rfl, ?_, S1.wo t.1 ⟨t, ht, rfl⟩, S1.dom, rs, hd, fun d v H' hR e r => q d v H' hR (e1.trans ?_) ⟨r, fun z => by cases z⟩⟩
  · rw [← ht]; exact S1.wok
  · rw [ht]; exact e
end
end PV

set_option maxHeartbeats 4000000
/-! PV: built-in functions, what a loop walks, targets. -/
namespace PV
open PySem L2 RZ

section
variable {P : Pm} {ct : Ct} {X : Cx} {k : Nat} {a b c d : E} {x y z u : Expr} {pos : Pos}
/-! one argument -/
theorem bi_q {bb : Bi} {σ : L2.St} {H : Hp} {Q : VK} (q : tE P X.K (.bi bb a) σ H Q) : tCB (rD1 X.K bb) (tCons (tB P X.K a) tNil) σ H Q := by
  obtain ⟨O0, H0, O, ρ, R, S, es, ev, q⟩ := q
  have ev : P.ev a ρ fun x => wM.lift (dBi bb x) R := by unfold Pm.ev PV.ev at ev; exact ev
  refine ⟨O0, H0, O, ρ, _, S, by simpa [esc] using es, ev, fun d v H1 hd e1 ba _ => ?_⟩
  obtain ⟨w, hw, hR⟩ := wlift hd
  have S1 := S.ext e1
  refine ⟨O, v, d, w, rfl, S1.dom, ba, hw, fun v' H2 le rp fr => q w v' H2 hR (e1.trans (Ext.of_le S1.wok le)) ⟨rp, fun z1 z2 => ?_⟩⟩
  exact (fr (by cases bb <;> first | rfl | (simp [E.fresh] at z1)) z2).back e1
theorem bi_f {bb : Bi} {nm : Str} {p : Pos} {id : String} (g : Gd P ct X k) (hc : CallR X (.builtin id) (rD1 X.K bb)) (hg : isGl ct nm = true) (hm : nm ∈ bltN) (hv : bootBuiltins nm = some (.builtin id)) (hn : nm ≠ "__name__") (hdb : (nm == ("__debug__" : Str)) = false)
    (ha : PE X x (tB P X.K a)) (hs : notStar x = true) : PE X (.Call (.Name nm p) [x] [] pos) (tE P X.K (.bi bb a)) :=
  (pe_callB hc (g.gl hg) (g.blt nm hm) hv (pa_cons ha pa_nil (star_cons hs)) hn hdb (star_cons hs) rfl).imp fun σ H Q q => bi_q q
theorem bi_t {bb : Bi} {nm : Str} {p : Pos} {id : String} (g : Gd P ct X k) (hc : CallR X (.type id) (rD1 X.K bb)) (hg : isGl ct nm = true) (hm : nm ∈ bltN) (hv : bootBuiltins nm = some (.type id)) (hn : nm ≠ "__name__") (hdb : (nm == ("__debug__" : Str)) = false)
    (ha : PE X x (tB P X.K a)) (hs : notStar x = true) : PE X (.Call (.Name nm p) [x] [] pos) (tE P X.K (.bi bb a)) :=
  (pe_callTy hc (g.gl hg) (g.blt nm hm) hv (pa_cons ha pa_nil (star_cons hs)) hn hdb (star_cons hs) rfl).imp fun σ H Q q => bi_q q
theorem snd_bi (g : Gd P ct X k) {bb : Bi} {nm : Str} {p : Pos} (hb : biOk bb = true) (hx : (nm == biN bb) = true) (hg : isGl ct nm = true) (hs : notStar x = true) (ha : PE X x (tB P X.K a)) : PE X (.Call (.Name nm p) [x] [] pos) (tE P X.K (.bi bb a)) := by
  obtain rfl : nm = biN bb := beq_iff_eq.mp hx
  cases bb with
  | len => exact bi_f g bi_len hg (by decide) rfl (by decide) (by decide) ha hs
  | abs => exact bi_f g bi_abs hg (by decide) rfl (by decide) (by decide) ha hs
  | sum => exact bi_f g (bi_sum g.calm) hg (by decide) rfl (by decide) (by decide) ha hs
  | any => exact bi_f g (bi_any g.calm) hg (by decide) rfl (by decide) (by decide) ha hs
  | all => exact bi_f g (bi_all g.calm) hg (by decide) rfl (by decide) (by decide) ha hs
  | tuple => exact bi_t g bi_tuple hg (by decide) rfl (by decide) (by decide) ha hs
  | list => exact bi_t g bi_list hg (by decide) rfl (by decide) (by decide) ha hs
  | sorted => exact bi_f g (bi_sorted g.room) hg (by decide) rfl (by decide) (by decide) ha hs
  | min => exact bi_f g (bi_min g.room g.calm) hg (by decide) rfl (by decide) (by decide) ha hs
  | max => exact bi_f g (bi_max g.room g.calm) hg (by decide) rfl (by decide) (by decide) ha hs
  | int => exact bi_t g bi_int hg (by decide) rfl (by decide) (by decide) ha hs
  | str => cases hb
  | dict => cases hb
  | sset => cases hb
  | lset => cases hb
/-! two arguments -/
theorem pa_two (ha : PE X x (tB P X.K a)) (hb : PE X y (tB P X.K b)) (hs : notStar x = true) (hs2 : notStar y = true) : PA X [x, y] (tCons (tB P X.K a) (tCons (tB P X.K b) tNil)) :=
  pa_cons ha (pa_cons hb pa_nil (star_cons hs2)) (star_cons hs)
theorem plain1 {env : PySem.Env} (hs : notStar y = true) : (backTo pos (starEach [y] env)).any (·.1) = false := by
  rw [star_cons hs]
  rfl
theorem mm_q {gg : D → D → Option D} {cc : E} (hf : cc.fresh = false) (he : esc false cc = esc true a ++ esc true b) (hv : ∀ ρ R, P.ev cc ρ R → P.ev a ρ fun u => P.ev b ρ fun v => wM.lift (gg u v) R) {σ : L2.St} {H : Hp} {Q : VK} (q : tE P X.K cc σ H Q) :
    tCB (rM2 X.K gg) (tCons (tB P X.K a) (tCons (tB P X.K b) tNil)) σ H Q := by
  obtain ⟨O0, H0, O, ρ, R, S, es, ev, q⟩ := q
  rw [he] at es
  refine ⟨O0, H0, O, ρ, _, S, noOw_l es, hv ρ R ev, fun d u H1 hd e1 ba _ => ⟨O0, H0, O, ρ, _, S.ext e1, noOw_r es, hd, fun d' u' H2 hd' e2 bb _ => ?_⟩⟩
  obtain ⟨w, hw, hR⟩ := wlift hd'
  have S2 := (S.ext e1).ext e2
  exact ⟨O, u, u', d, d', w, rfl, ba.ext e2 S.wo e1.2, bb, hw, fun v H3 le rp fr => q w v H3 hR ((e1.trans e2).trans (Ext.of_le S2.wok le)) ⟨rp, fun z1 => by rw [hf] at z1; cases z1⟩⟩
theorem snd_mx (g : Gd P ct X k) {p : Pos} (hg : isGl ct "max" = true) (hs : notStar x = true) (hs2 : notStar y = true) (ha : PE X x (tB P X.K a)) (hb : PE X y (tB P X.K b)) : PE X (.Call (.Name "max" p) [x, y] [] pos) (tE P X.K (.mx a b)) :=
  (pe_callB (bi_mx g.calm) (g.gl hg) (g.blt _ (by decide)) rfl (pa_two ha hb hs hs2) (by decide) (by decide) (star_cons hs) (plain1 hs2)).imp fun σ H Q q =>
    mm_q (cc := .mx a b) rfl (by simp [esc]) (fun ρ R h => by unfold Pm.ev PV.ev at h; exact h) q
theorem snd_mn (g : Gd P ct X k) {p : Pos} (hg : isGl ct "min" = true) (hs : notStar x = true) (hs2 : notStar y = true) (ha : PE X x (tB P X.K a)) (hb : PE X y (tB P X.K b)) : PE X (.Call (.Name "min" p) [x, y] [] pos) (tE P X.K (.mn a b)) :=
  (pe_callB (bi_mn g.calm) (g.gl hg) (g.blt _ (by decide)) rfl (pa_two ha hb hs hs2) (by decide) (by decide) (star_cons hs) (plain1 hs2)).imp fun σ H Q q =>
    mm_q (cc := .mn a b) rfl (by simp [esc]) (fun ρ R h => by unfold Pm.ev PV.ev at h; exact h) q
theorem pe_tyn {nm : Str} {T : String} (hg : Gl X nm) (hm : X.mg nm = none) (hv : bootBuiltins nm = some (.type T)) (hn : nm ≠ "__name__") (hd : (nm == ("__debug__" : Str)) = false) : PE X (.Name nm pos) (tC (.ty T)) :=
  ⟨fun pins s σ H Q I h => ld_blt I hg hm hv ⟨.ty T, H, I, rfl, h⟩ hn hd⟩
theorem ty_facts (t : Ty) : Str.ofString (tyN t) ∈ bltN ∧ bootBuiltins (Str.ofString (tyN t)) = some (.type (tyN t)) ∧ Str.ofString (tyN t) ≠ "__name__" ∧ (Str.ofString (tyN t) == ("__debug__" : Str)) = false := by
  cases t <;> exact ⟨by decide, rfl, by decide, by decide⟩
theorem snd_isin (g : Gd P ct X k) {t : Ty} {p p2 : Pos} {n : Str} (hg : isGl ct "isinstance" = true) (hn : (n == Str.ofString (tyN t)) = true) (hg2 : isGl ct n = true) (hs : notStar x = true) (ha : PE X x (tB P X.K a)) : PE X (.Call (.Name "isinstance" p) [x, .Name n p2] [] pos) (tE P X.K (.isin a t)) := by
  obtain rfl : n = Str.ofString (tyN t) := beq_iff_eq.mp hn
  obtain ⟨f1, f2, f3, f4⟩ := ty_facts t
  refine (pe_callB (bi_isin t) (g.gl hg) (g.blt _ (by decide)) rfl (pa_cons ha (pa_cons (pe_tyn (g.gl hg2) (g.blt _ f1) f2 f3 f4) pa_nil) (star_cons hs)) (by decide) (by decide) (star_cons hs) rfl).imp fun σ H Q q => ?_
  obtain ⟨O0, H0, O, ρ, R, S, es, ev, q⟩ := q
  have ev : P.ev a ρ fun x => R (.bool (dIs x t)) := by unfold Pm.ev PV.ev at ev; exact ev
  exact ⟨O0, H0, O, ρ, _, S, by simpa [esc] using es, ev, fun d v H1 hd e1 ba _ => ⟨O, v, d, rfl, ba, q _ _ H1 hd e1 ⟨.bl _, fun _ z => by cases z⟩⟩⟩

/-! ranges -/
theorem rps_rng (K : PySem.W.Frag) (H : Hp) (i j : Int) : Rps K H (rgV i j) (rng i j) := by
  unfold rgV rng
  generalize List.range (j - i).toNat = l
  induction l with
  | nil => exact .nil
  | cons n l ih => exact .cons (.int _) ih
theorem okR_of {i j : Int} (h : okR i j = true) : RgOk i j := by
  unfold okR at h
  have h := of_decide_eq_true h
  unfold RgOk
  have e : LINE = 2 ^ 24 := by decide
  omega
theorem snd_bis_t {s : Src} {te : L2.St → Hp → (Int → Int → Hp → Prop) → Prop} {p : Pos} (g : Gd P ct X k) (hg : isGl ct "tuple" = true) (hs : notStar x = true) (he : PRg X x te)
    (hq : ∀ σ H O0 H0 O ρ S', Sim X.K P.w P.iw O0 H0 O H σ ρ → NoOw (escS s) ρ → P.evS s ρ S' → ∀ Q : Int → Int → Hp → Prop, (∀ i j H', S' (rng i j) → okR i j = true → Ext P.w H H' → Q i j H') → te σ H Q) :
    PE X (.Call (.Name "tuple" p) [x] [] pos) (tE P X.K (.bis .tuple s)) :=
  (pe_tupRg g.calm (g.gl hg) (g.blt _ (by decide)) he (star_cons hs)).imp fun σ H Q q => by
    obtain ⟨O0, H0, O, ρ, R, S, es, ev, q⟩ := q
    have ev : P.evS s ρ fun xs => R (.tuple xs) := by unfold Pm.ev PV.ev at ev; exact ev
    refine hq σ H O0 H0 O ρ _ S (by simpa [esc] using es) ev _ fun i j H' hR hk e => ⟨okR_of hk, fun p hp => ?_⟩
    have S1 := S.ext e
    refine q _ _ _ hR (e.trans (Ext.new S1.wok hp)) ⟨?_, fun z => by cases z⟩
    exact .tup (.inl (.inl (hid_in (fun hm => S1.dom p hm hp) (by simp [upd])))) (rps_rng _ _ i j)
theorem snd_bis_l {s : Src} {te : L2.St → Hp → (Int → Int → Hp → Prop) → Prop} {p : Pos} (g : Gd P ct X k) (hg : isGl ct "list" = true) (hs : notStar x = true) (he : PRg X x te)
    (hq : ∀ σ H O0 H0 O ρ S', Sim X.K P.w P.iw O0 H0 O H σ ρ → NoOw (escS s) ρ → P.evS s ρ S' → ∀ Q : Int → Int → Hp → Prop, (∀ i j H', S' (rng i j) → okR i j = true → Ext P.w H H' → Q i j H') → te σ H Q) :
    PE X (.Call (.Name "list" p) [x] [] pos) (tE P X.K (.bis .list s)) :=
  (pe_listRg g.calm (g.gl hg) (g.blt _ (by decide)) he (star_cons hs)).imp fun σ H Q q => by
    obtain ⟨O0, H0, O, ρ, R, S, es, ev, q⟩ := q
    have ev : P.evS s ρ fun xs => R (.list xs) := by unfold Pm.ev PV.ev at ev; exact ev
    refine hq σ H O0 H0 O ρ _ S (by simpa [esc] using es) ev _ fun i j H' hR hk e => ⟨okR_of hk, fun p hp => ?_⟩
    have S1 := S.ext e
    refine q _ _ _ hR (e.trans (Ext.new S1.wok hp)) ⟨?_, fun _ _ => ?_⟩
    · exact .lst (hid_in (fun hm => S1.dom p hm hp) (by simp [upd])) (rps_rng _ _ i j)
    · exact FrP.back (H1 := H') ⟨p, _, _, rfl, rfl, hp, by simp [upd], rps_rng _ _ i j⟩ e
theorem wite {α : Type} {b : Bool} {o : W α} {R : α → Prop} (h : (if b = true then o else wM.fail) R) : b = true ∧ o R := by
  cases b with
  | true => exact ⟨rfl, h⟩
  | false => exact False.elim h
theorem rg1_q {σ : L2.St} {H : Hp} {O0 : List Addr} {H0 : Hp} {O : List Addr} {ρ : Env} {S' : List D → Prop} (S : Sim X.K P.w P.iw O0 H0 O H σ ρ) (es : NoOw (escS (.r1 a)) ρ) (ev : P.evS (.r1 a) ρ S') (Q : Int → Int → Hp → Prop)
    (q : ∀ i j H', S' (rng i j) → okR i j = true → Ext P.w H H' → Q i j H') : tRg1 (tB P X.K a) σ H Q := by
  have ev : P.ev a ρ fun x => wM.bind (wM.lift (int? x)) (fun i => if okR 0 i then wM.pure (rng 0 i) else wM.fail) S' := by unfold Pm.evS PV.evS at ev; exact ev
  refine ⟨O0, H0, O, ρ, _, S, by simpa [escS] using es, ev, fun d v H1 hd e1 ba _ => ?_⟩
  obtain ⟨i, hi, hd⟩ := wbind hd
  obtain ⟨hk, hd⟩ := wite hd
  rw [int_some hi] at ba
  exact ⟨i, ba.int, q 0 i H1 hd hk e1⟩
theorem rg2_q {σ : L2.St} {H : Hp} {O0 : List Addr} {H0 : Hp} {O : List Addr} {ρ : Env} {S' : List D → Prop} (S : Sim X.K P.w P.iw O0 H0 O H σ ρ) (es : NoOw (escS (.r2 a b)) ρ) (ev : P.evS (.r2 a b) ρ S') (Q : Int → Int → Hp → Prop)
    (q : ∀ i j H', S' (rng i j) → okR i j = true → Ext P.w H H' → Q i j H') : tRg2 (tB P X.K a) (tB P X.K b) σ H Q := by
  have ev : P.ev a ρ fun x => wM.bind (wM.lift (int? x)) (fun i => wM.bind (PV.ev wM P.C P.F P.G b ρ) fun y => wM.bind (wM.lift (int? y)) fun j => if okR i j then wM.pure (rng i j) else wM.fail) S' := by unfold Pm.evS PV.evS at ev; exact ev
  have es : NoOw (esc true a ++ esc true b) ρ := by simpa [escS] using es
  refine ⟨O0, H0, O, ρ, _, S, noOw_l es, ev, fun d v H1 hd e1 ba _ => ?_⟩
  obtain ⟨i, hi, hd⟩ := wbind hd
  rw [int_some hi] at ba
  refine ⟨O0, H0, O, ρ, _, S.ext e1, noOw_r es, hd, fun d2 v2 H2 hd e2 bb _ => ?_⟩
  obtain ⟨j, hj, hd⟩ := wbind hd
  obtain ⟨hk, hd⟩ := wite hd
  rw [int_some hj] at bb
  exact ⟨i, j, ba.int, bb.int, q i j H2 hd hk (e1.trans e2)⟩

/-! ### what a loop walks -/
/-- J walks ds where G holds -/
def Wk (K : PySem.W.Frag) (J : It) (ds : List D) (G : List Addr → Hp → Prop) : Prop := ∀ O' H', G O' H' → ∀ i : Nat, (∀ d, ds[i]? = some d → J.go i H' ∧ ∀ x H'', J.yld i H' x H'' → Le H' H'' ∧ Rp K (hid O' H'') x d) ∧ (ds.length ≤ i → J.stop i H')
/-- fz: the source is frozen; else it may be a list that a slot holds alone and that stays as it is -/
def Gk (fz : Bool) (σ : L2.St) (ρ : Env) (O : List Addr) (H1 : Hp) : List Addr → Hp → Prop := fun O' H' => Dm O' H' ∧ Le (hid O H1) (hid O' H') ∧ (fz = false → ∀ p, SlOw σ ρ p → H' p = H1 p)
def escW (fz : Bool) (s : Src) : List Nat := if fz = true then escF s else escS s
def tI (P : Pm) (K : PySem.W.Frag) (fz : Bool) (c : Src) : TI := fun σ H R => ∃ O0 H0 O ρ S', Sim K P.w P.iw O0 H0 O H σ ρ ∧ NoOw (escW fz c) ρ ∧ P.evS c ρ S' ∧ ∀ ds J H', S' ds → ds.length ≤ LINE → Ext P.w H H' → Wk K J ds (Gk fz σ ρ O H') → R J H'
theorem pi_imp {tg e : Expr} {t t' : TI} (h : PI X tg e t') (k : ∀ σ H R, t σ H R → t' σ H R) : PI X tg e t := ⟨fun pins s σ H R I q => h.run pins s σ H R I (k σ H R q)⟩
theorem rng_get {i j : Int} {n : Nat} {d : D} (h : (rng i j)[n]? = some d) : n < (j - i).toNat ∧ d = .int (i + n) := by
  unfold rng at h
  rw [List.getElem?_map] at h
  by_cases hn : n < (j - i).toNat
  · rw [List.getElem?_range hn] at h
    exact ⟨hn, (Option.some.inj h).symm⟩
  · rw [List.getElem?_eq_none (by simpa using hn)] at h
    cases h
theorem rngD_get {i j : Int} {n : Nat} {d : D} (h : (rngD i j)[n]? = some d) : n < (i - j).toNat ∧ d = .int (i - n) := by
  unfold rngD at h
  rw [List.getElem?_map] at h
  by_cases hn : n < (i - j).toNat
  · rw [List.getElem?_range hn] at h
    exact ⟨hn, (Option.some.inj h).symm⟩
  · rw [List.getElem?_eq_none (by simpa using hn)] at h
    cases h
theorem wk_rng (K : PySem.W.Frag) (i j : Int) (G : List Addr → Hp → Prop) : Wk K (Itr i (j - i).toNat) (rng i j) G := fun O' H' _ n => by
  refine ⟨fun d hd => ?_, fun h => ?_⟩
  · obtain ⟨h1, rfl⟩ := rng_get hd
    refine ⟨h1, fun x H'' hy => ?_⟩
    obtain ⟨rfl, rfl⟩ := hy
    exact ⟨Le.refl _, .int _⟩
  · show (j - i).toNat ≤ n
    rw [show (rng i j).length = (j - i).toNat by simp [rng]] at h
    exact h
theorem wk_rngD (K : PySem.W.Frag) (i j : Int) (G : List Addr → Hp → Prop) : Wk K (Itc i (-1) (i - j).toNat) (rngD i j) G := fun O' H' _ n => by
  refine ⟨fun d hd => ?_, fun h => ?_⟩
  · obtain ⟨h1, rfl⟩ := rngD_get hd
    refine ⟨h1, fun x H'' hy => ?_⟩
    obtain ⟨rfl, rfl⟩ := hy
    have e : i + (n : Nat) * (-1) = i - n := by omega
    rw [e]
    exact ⟨Le.refl _, .int _⟩
  · show (i - j).toNat ≤ n
    rw [show (rngD i j).length = (i - j).toNat by simp [rngD]] at h
    exact h
theorem rng_len {i j : Int} (h : okR i j = true) : (rng i j).length ≤ LINE := by
  unfold okR at h
  have h := of_decide_eq_true h
  simpa [rng] using h.2.2
theorem snd_r1 (g : Gd P ct X k) {fz : Bool} {tg : Expr} {p : Pos} (hg : isGl ct "range" = true) (hs : notStar x = true) (ha : PE X x (tB P X.K a)) : PI X tg (.Call (.Name "range" p) [x] [] pos) (tI P X.K fz (.r1 a)) :=
  pi_imp (pi_range1 (g.gl hg) (g.blt _ (by decide)) (pa_cons ha pa_nil (star_cons hs)) (by rw [star_cons hs]; rfl)) fun σ H R q => by
    obtain ⟨O0, H0, O, ρ, S', S, es, ev, q⟩ := q
    have ev : P.ev a ρ fun x => wM.bind (wM.lift (int? x)) (fun i => if okR 0 i then wM.pure (rng 0 i) else wM.fail) S' := by unfold Pm.evS PV.evS at ev; exact ev
    refine ⟨O0, H0, O, ρ, _, S, by cases fz <;> simpa [escW, escF, escS] using es, ev, fun d v H1 hd e1 ba _ => ?_⟩
    obtain ⟨j, hj, hd⟩ := wbind hd
    obtain ⟨hk, hd⟩ := wite hd
    rw [int_some hj] at ba
    obtain ⟨_, _, k1, k2, _⟩ := okR_of hk
    have w := wk_rng X.K 0 j (Gk fz σ ρ O H1)
    rw [Int.sub_zero] at w
    exact ⟨j, by rw [ba.int], k1, k2, q _ _ H1 hd (rng_len hk) e1 w⟩
theorem snd_r2 (g : Gd P ct X k) {fz : Bool} {tg : Expr} {p : Pos} (hg : isGl ct "range" = true) (hs : notStar x = true) (hs2 : notStar y = true) (ha : PE X x (tB P X.K a)) (hb : PE X y (tB P X.K b)) : PI X tg (.Call (.Name "range" p) [x, y] [] pos) (tI P X.K fz (.r2 a b)) :=
  pi_imp (pi_range2 (g.gl hg) (g.blt _ (by decide)) (pa_two ha hb hs hs2) (by rw [star_cons hs, star_cons hs2]; rfl) (by rw [star_cons hs2]; rfl)) fun σ H R q => by
    obtain ⟨O0, H0, O, ρ, S', S, es, ev, q⟩ := q
    have h := rg2_q (X := X) (Q := fun i j H' => (-(2 ^ 62) ≤ i ∧ i < 2 ^ 62 ∧ -(2 ^ 62) ≤ j ∧ j < 2 ^ 62) ∧ R (Itr i (j - i).toNat) H') S (by cases fz <;> simpa [escW, escF, escS] using es) ev fun i j H' hS hk e => by
      obtain ⟨k0, k01, k1, k2, _⟩ := okR_of hk
      exact ⟨⟨k0, k01, k1, k2⟩, q _ _ H' hS (rng_len hk) e (wk_rng X.K i j _)⟩
    obtain ⟨O0, H0, O, ρ, R', S, es, ev, h⟩ := h
    refine ⟨O0, H0, O, ρ, R', S, es, ev, fun d v H' hd e ba lo => ?_⟩
    obtain ⟨O0, H0, O, ρ, R', S, es, ev, h⟩ := h d v H' hd e ba lo
    refine ⟨O0, H0, O, ρ, R', S, es, ev, fun d v H' hd e ba lo => ?_⟩
    obtain ⟨i, j, h1, h2, h3, h4⟩ := h d v H' hd e ba lo
    exact ⟨i, j, by rw [h1, h2], h3, h4⟩
theorem snd_r3 (g : Gd P ct X k) {fz : Bool} {tg : Expr} {p : Pos} (hg : isGl ct "range" = true) (hs : notStar x = true) (hs2 : notStar y = true) (hs3 : notStar z = true) (ha : PE X x (tB P X.K a)) (hb : PE X y (tB P X.K b)) (hc : PE X z (tB P X.K c)) :
    PI X tg (.Call (.Name "range" p) [x, y, z] [] pos) (tI P X.K fz (.r3 a b c)) :=
  pi_imp (pi_range3 (g.gl hg) (g.blt _ (by decide)) (pa_cons ha (pa_two hb hc hs2 hs3) (star_cons hs)) (star_cons hs) (by rw [star_cons hs2, star_cons hs3]; rfl)) fun σ H R q => by
    obtain ⟨O0, H0, O, ρ, S', S, es, ev, q⟩ := q
    have es : NoOw (esc true a ++ (esc true b ++ esc true c)) ρ := by cases fz <;> simpa [escW, escF, escS] using es
    have ev : P.ev a ρ fun x => wM.bind (wM.lift (int? x)) (fun i => wM.bind (PV.ev wM P.C P.F P.G b ρ) fun y => wM.bind (wM.lift (int? y)) fun j => wM.bind (PV.ev wM P.C P.F P.G c ρ) fun z => wM.bind (wM.lift (int? z)) fun k => if okR j i && k == -1 then wM.pure (rngD i j) else wM.fail) S' := by unfold Pm.evS PV.evS at ev; exact ev
    refine ⟨O0, H0, O, ρ, _, S, noOw_l es, ev, fun d v H1 hd e1 ba _ => ?_⟩
    obtain ⟨i, hi, hd⟩ := wbind hd
    rw [int_some hi] at ba
    refine ⟨O0, H0, O, ρ, _, S.ext e1, noOw_l (noOw_r es), hd, fun d2 v2 H2 hd e2 bb _ => ?_⟩
    obtain ⟨j, hj, hd⟩ := wbind hd
    rw [int_some hj] at bb
    refine ⟨O0, H0, O, ρ, _, (S.ext e1).ext e2, noOw_r (noOw_r es), hd, fun d3 v3 H3 hd e3 bc _ => ?_⟩
    obtain ⟨kk, hk, hd⟩ := wbind hd
    rw [int_some hk] at bc
    obtain ⟨ho, hd'⟩ := wite hd
    rw [Bool.and_eq_true, beq_iff_eq] at ho
    obtain ⟨ho, rfl⟩ := ho
    obtain ⟨k0, k01, k1, k2, k3⟩ := okR_of ho
    refine ⟨i, j, -1, (i - j).toNat, by rw [ba.int, bb.int, bc.int], RgC.neg k1 k2 k0 k01, q _ _ H3 hd' ?_ ((e1.trans e2).trans e3) (wk_rngD X.K i j _)⟩
    simpa [rngD, LINE] using k3
/-! a list or a tuple -/
theorem pi_seq {tg l : Expr} {tl : TE} (hl : PE X l tl) : PI X tg l (fun σ H R => tl σ H fun v H1 => ∃ a xs, v = .ref a ∧ ((SqL X.K H1 a xs ∧ (xs.length ≤ sizeLine → R (Itl X.K a) H1)) ∨ (SqT X.K H1 a xs ∧ (xs.length ≤ sizeLine → R (Itt X.K a) H1)))) := by
  refine ⟨fun pins s σ H R I q => ?_⟩
  refine thn (hl.run pins s σ H _ I q) fun w s1 ⟨v, H1, I1, rv, a, xs, ev, q1⟩ => ?_
  subst ev
  cases rv
  have ap : ∀ b, b ∈ [s1.heap.objs.size] → FpOk X pins H1 b := fun b hb => by
    rw [List.mem_singleton.mp hb]
    exact I1.fpOk (Nat.le_refl _) (I1.hok.fresh (Nat.le_refl _))
  rcases q1 with ⟨hs, q1⟩ | ⟨hs, q1⟩
  · obtain ⟨us, ru, pl, hz⟩ := I1.list hs
    exact wpAny_pyIter_list pl.isList ⟨_, [s1.heap.objs.size], _, _, H1, rfl, I1.kept (t' := s1.toks) (fun b o e => Heap.get?_push_of_some _ e), turn_list a _, ⟨_, Heap.get?_push_size _ rfl, rfl, rfl⟩, ap, q1 hz⟩
  · obtain ⟨us, ru, pl, hz⟩ := I1.tuple hs
    exact wpAny_pyIter_tuple (show s1.heap.IsTuple a us.toArray from pl) ⟨_, [s1.heap.objs.size], _, _, H1, rfl, I1.kept (t' := s1.toks) (fun b o e => Heap.get?_push_of_some _ e), turn_tuple a _, ⟨_, Heap.get?_push_size _ rfl, rfl, rfl⟩, ap, q1 hz⟩
theorem wk_list {K : PySem.W.Frag} {aa : Addr} {vs : List V} {ds : List D} {O : List Addr} {H1 : Hp} {G : List Addr → Hp → Prop} (r : Rps K (hid O H1) vs ds) (hs : ∀ O' H', G O' H' → SqL K H' aa vs ∧ Le (hid O H1) (hid O' H')) : Wk K (Itl K aa) ds G := fun O' H' hG n => by
  obtain ⟨h1, h2⟩ := hs O' H' hG
  refine ⟨fun d hd => ?_, fun h => ⟨vs, h1, by rw [r.length]; exact h⟩⟩
  obtain ⟨v, hv, rv⟩ := r.getD hd
  refine ⟨⟨vs, v, h1, hv⟩, fun x H'' hy => ?_⟩
  obtain ⟨rfl, hy⟩ := hy
  have e := hy vs h1
  rw [hv] at e
  cases e
  exact ⟨Le.refl _, rv.mono h2⟩
end
end PV

set_option maxHeartbeats 4000000
/-! PV: zip of a list and a tuple: sides of any kind. -/
namespace PV
open PySem PySem.Spec PyProof.Rows L2 RZ
open PySem.Sem (wp)
/-- how one side of a zip steps -/
structure Side (it l : Addr) (P P' : Heap → Prop) (x : Option Value) : Prop where
  keep : ∀ {c : Addr} {h h' : Heap}, it ≠ c → l ≠ c → Heap.ExtBut c h h' → P h → P h'
  keep' : ∀ {c : Addr} {h h' : Heap}, it ≠ c → l ≠ c → Heap.ExtBut c h h' → P' h → P' h'
  has' : ∀ {h : Heap}, P' h → ∃ o, h.get? it = some o
  next : ∀ {pr : Program} {wd : World} {B : Around} {E Q : Value → Shared → Prop} {s : Shared} {v : Value}, x = some v → P s.heap → (∀ g, P' g → Heap.SameBut it s.heap g → Q v { s with heap := g }) → wpAny (model pr wd) B (Builtin.SmallTypes.nextOf (.ref it)) Q E s
  stop : ∀ {pr : Program} {wd : World} {B : Around} {E Q : Value → Shared → Prop} {s : Shared}, x = none → B.handled = none → P s.heap → (∀ g e, Heap.ExtBut it s.heap g → (∃ o, g.get? e = some o ∧ o.cls = .type "StopIteration") → E (.ref e) { s with heap := g }) → wpAny (model pr wd) B (Builtin.SmallTypes.nextOf (.ref it)) Q E s
theorem side_list {it l : Addr} {i : Nat} {xs : Array Value} (ne : l ≠ it) : Side it l (fun h => h.IsListIter it l i ∧ h.IsList l xs) (fun h => h.IsListIter it l (i + 1) ∧ h.IsList l xs) xs[i]? where
  keep := fun a b e p => ⟨p.1.extBut e a, p.2.extBut e b⟩
  keep' := fun a b e p => ⟨p.1.extBut e a, p.2.extBut e b⟩
  has' := fun p => p.1.imp fun _ q => q.1
  next := fun hx p k => wpAny_nextOf_list_item p.1 p.2 hx fun g q sb => k g ⟨q, p.2.extBut sb.extBut ne⟩ sb
  stop := fun hx hh p k => wpAny_nextOf_list_end hh p.1 p.2 hx k
theorem side_tuple {it l : Addr} {i : Nat} {xs : Array Value} (ne : l ≠ it) : Side it l (fun h => h.IsTupleIter it l i ∧ h.IsTuple l xs) (fun h => h.IsTupleIter it l (i + 1) ∧ h.IsTuple l xs) xs[i]? where
  keep := fun a b e p => ⟨p.1.extBut e a, p.2.extBut e b⟩
  keep' := fun a b e p => ⟨p.1.extBut e a, p.2.extBut e b⟩
  has' := fun p => p.1.imp fun _ q => q.1
  next := fun hx p k => nextOf_tuple_item p.1 p.2 hx fun g q sb => k g ⟨q, p.2.extBut sb.extBut ne⟩ sb
  stop := fun hx hh p k => nextOf_tuple_end hh p.1 p.2 hx k
section
variable {pr : Program} {wd : World} {B : Around} {E : Value → Shared → Prop} {s : Shared}
variable {z ti out ia ib la lb : Addr} {Pa Pa' Pb Pb' : Heap → Prop} {ox oy : Option Value} {x y p q : Value}
/-- the next pair of any two sides -/
theorem sides_item {Q : Value → Shared → Prop} (D : ZipApart z ti out ia ib la lb) (Sa : Side ia la Pa Pa' (some x)) (Sb : Side ib lb Pb Pb' (some y))
    (e1 : IsZip s.heap z ti out .none) (e2 : IsPair s.heap ti (.ref ia) (.ref ib)) (e3 : IsPair s.heap out p q) (pa : Pa s.heap) (pb : Pb s.heap)
    (k : ∀ g, IsZip g z ti out (rawInt s.heap.objs.size) → IsPair g out x y → Pa' g → Pb' g → IsPair g s.heap.objs.size x y → g.objs.size = s.heap.objs.size + 1 → (∀ c o, c ≠ z → c ≠ out → c ≠ ia → c ≠ ib → s.heap.get? c = some o → g.get? c = some o) → Q (.ref s.heap.objs.size) { s with heap := g }) :
    wpAny (model pr wd) B (Builtin.«zip.__next__» ⟨[.ref z], []⟩) (fun f s' => ∃ v, f = .done (.ret v) ∧ Q v s') E s := by
  show wpAny _ _ (field (.ref z) 2 >>= _) _ _ _; refine wpAny_bind (wpAny_field e1 rfl (x := .bool false) rfl ?_)
  show wpAny _ _ (field (.ref z) 3 >>= _) _ _ _; refine wpAny_bind (wpAny_field e1 rfl (x := .ref ti) rfl (wpAny_bind (wpAny_seqItems e2 rfl ?_)))
  show wpAny _ _ (Builtin.SmallTypes.ownedTupleIsFree (.ref z) >>= _) _ _ _; refine wpAny_bind ?_
  unfold Builtin.SmallTypes.ownedTupleIsFree; refine wpAny_bind (wpAny_field e1 rfl (x := .none) rfl (wpAny_pure ?_))
  simp only [if_true]; refine wpAny_bind (wpAny_rule (wpAny_bind (wpAny_field e1 rfl (x := .ref out) rfl (wpAny_bind (wpAny_setField_rec e1 (by simp) fun ga za sa => ?_)))))
  have za : IsZip ga z ti out .ellipsis := za; refine wpAny_bind ?_
  simp only [List.zipIdx_cons, List.zipIdx_nil, List.forIn_cons, List.forIn_nil]; refine wpAny_bind (wpAny_bind (wpAny_onRaise ?_))
  show wpAny _ _ (Builtin.SmallTypes.nextOf (.ref ia) >>= _) _ _ _; refine wpAny_bind (Sa.next rfl (Sa.keep D.i1z D.l1z sa.extBut pa) fun gb pa2 sb => wpAny_pure ?_)
  have ob : IsPair gb out p q := sb.extBut _ _ D.TOi1 (sa.extBut _ _ D.TOz e3)
  refine wpAny_bind (wpAny_seqItems ob rfl (wpAny_bind (wpAny_updateSeq_pair ob fun gc oc sc => ?_)))
  have oc : IsPair gc out x q := oc; refine wpAny_bind (wpAny_letGo (wpAny_pure (wpAny_bind (wpAny_bind (wpAny_onRaise ?_)))))
  show wpAny _ _ (Builtin.SmallTypes.nextOf (.ref ib) >>= _) _ _ _
  refine wpAny_bind (Sb.next rfl (Sb.keep D.TOi2.symm D.l2TO sc.extBut (Sb.keep D.i12.symm D.l2i1 sb.extBut (Sb.keep D.i2z D.l2z sa.extBut pb))) fun gd pb2 sd => wpAny_pure ?_)
  have od : IsPair gd out x q := sd.extBut _ _ D.TOi2 oc
  refine wpAny_bind (wpAny_seqItems od rfl (wpAny_bind (wpAny_updateSeq_pair od fun ge oe se => ?_)))
  have oe : IsPair ge out x y := oe; refine wpAny_bind (wpAny_letGo (wpAny_pure (wpAny_pure (wpAny_bind (wpAny_seqItems oe rfl (wpAny_bind (wpAny_newTuple ?_)))))))
  have hn : ge.objs.size = s.heap.objs.size := by rw [se.1, sd.1, sc.1, sb.1, sa.1]
  have ze : IsZip ge z ti out .ellipsis := se.extBut _ _ D.TOz.symm (sd.extBut _ _ D.i2z.symm (sc.extBut _ _ D.TOz.symm (sb.extBut _ _ D.i1z.symm za)))
  have ke : ∀ c o, c ≠ z → c ≠ out → c ≠ ia → c ≠ ib → s.heap.get? c = some o → ge.get? c = some o := fun c o n1 n2 n3 n4 e => se.extBut _ _ n2 (sd.extBut _ _ n4 (sc.extBut _ _ n2 (sb.extBut _ _ n3 (sa.extBut _ _ n1 e))))
  have pa3 : Pa' ge := Sa.keep' D.TOi1.symm D.l1TO se.extBut (Sa.keep' D.i12 D.l1i2 sd.extBut (Sa.keep' D.TOi1.symm D.l1TO sc.extBut pa2))
  have pb3 : Pb' ge := Sb.keep' D.TOi2.symm D.l2TO se.extBut pb2
  have zl : z < ge.objs.size := Heap.lt_size ze
  show wpAny _ _ (Builtin.SmallTypes.ownedTupleHandOut (.ref z) (.ref ge.objs.size) >>= _) _ _ _; refine wpAny_bind ?_
  have zf : IsZip (ge.push { cls := .type "tuple", data := .seq #[x, y] }) z ti out .ellipsis := Heap.get?_push_of_some _ ze
  unfold Builtin.SmallTypes.ownedTupleHandOut; refine wpAny_bind (wpAny_setField_rec zf (by simp) fun gg zg sg => ?_)
  have zg : IsZip gg z ti out (rawInt ge.objs.size) := zg; refine wpAny_setField_rec zg (by simp) fun gh zh sh => ?_
  have zh : IsZip gh z ti out (rawInt ge.objs.size) := zh
  have up : Heap.ExtBut z ge gh := fun c o n e => sh.extBut _ _ n (sg.extBut _ _ n (Heap.get?_push_of_some _ e))
  have th : IsPair gh ge.objs.size x y := sh.extBut _ _ (Nat.ne_of_gt zl) (sg.extBut _ _ (Nat.ne_of_gt zl) (Heap.get?_push_size _ rfl))
  have hn2 : gh.objs.size = ge.objs.size + 1 := by rw [sh.1, sg.1, Heap.size_push]
  rw [hn] at zh th hn2
  refine wpAny_pure ⟨_, rfl, ?_⟩
  show Q (.ref ge.objs.size) _; rw [hn]
  exact k gh zh (up _ _ D.TOz oe) (Sa.keep' D.i1z D.l1z up pa3) (Sb.keep' D.i2z D.l2z up pb3) th hn2 fun c o n1 n2 n3 n4 e => up c o n1 (ke c o n1 n2 n3 n4 e)
/-- the end of any two sides -/
theorem sides_end {Q : Fin → Shared → Prop} (hh : B.handled = none) (D : ZipApart z ti out ia ib la lb) (Sa : Side ia la Pa Pa' ox) (Sb : Side ib lb Pb Pb' oy)
    (e1 : IsZip s.heap z ti out .none) (e2 : IsPair s.heap ti (.ref ia) (.ref ib)) (e3 : IsPair s.heap out p q) (pa : Pa s.heap) (pb : Pb s.heap) (en : ox = none ∨ oy = none)
    (k : ∀ g e, (∀ c o, c ≠ z → c ≠ out → c ≠ ia → c ≠ ib → s.heap.get? c = some o → g.get? c = some o) → (∃ o, g.get? e = some o ∧ o.cls = .type "StopIteration") → E (.ref e) { s with heap := g }) :
    wpAny (model pr wd) B (Builtin.«zip.__next__» ⟨[.ref z], []⟩) Q E s := by
  show wpAny _ _ (field (.ref z) 2 >>= _) _ _ _; refine wpAny_bind (wpAny_field e1 rfl (x := .bool false) rfl ?_)
  show wpAny _ _ (field (.ref z) 3 >>= _) _ _ _; refine wpAny_bind (wpAny_field e1 rfl (x := .ref ti) rfl (wpAny_bind (wpAny_seqItems e2 rfl ?_)))
  show wpAny _ _ (Builtin.SmallTypes.ownedTupleIsFree (.ref z) >>= _) _ _ _; refine wpAny_bind ?_
  unfold Builtin.SmallTypes.ownedTupleIsFree; refine wpAny_bind (wpAny_field e1 rfl (x := .none) rfl (wpAny_pure ?_))
  simp only [if_true]; refine wpAny_bind (wpAny_rule (wpAny_bind (wpAny_field e1 rfl (x := .ref out) rfl (wpAny_bind (wpAny_setField_rec e1 (by simp) fun ga za sa => ?_)))))
  have za : IsZip ga z ti out .ellipsis := za; refine wpAny_bind ?_
  simp only [List.zipIdx_cons, List.zipIdx_nil, List.forIn_cons, List.forIn_nil]; refine wpAny_bind (wpAny_bind (wpAny_onRaise ?_))
  have last : ∀ (i : Addr) (gy gz : Heap) (e : Addr), i ≠ z → IsZip gy z ti out .ellipsis → (∀ c o, c ≠ z → c ≠ out → c ≠ ia → c ≠ ib → s.heap.get? c = some o → gy.get? c = some o) → (i = ia ∨ i = ib) → Heap.ExtBut i gy gz → (∃ o, gz.get? e = some o ∧ o.cls = .type "StopIteration") → ∀ {m : Value}, ∀ gw, Heap.SameBut z gz gw → IsZip gz z ti out .ellipsis → E (.ref e) { s with heap := gw } := by
    intro i gy gz e hi hy ky hc xz he m gw sw hz
    obtain ⟨oe, h1, h2⟩ := he
    have ez : e ≠ z := fun h => by rw [h, hz] at h1; cases h1; simp at h2
    refine k gw e (fun c o n1 n2 n3 n4 g => sw.extBut _ _ n1 (xz _ _ ?_ (ky c o n1 n2 n3 n4 g))) ⟨oe, sw.extBut _ _ ez h1, h2⟩
    rcases hc with h | h
    · rw [h]; exact n3
    · rw [h]; exact n4
  show wpAny _ _ (Builtin.SmallTypes.nextOf (.ref ia) >>= _) _ _ _
  cases ox with
  | none =>
    refine wpAny_bind (Sa.stop rfl hh (Sa.keep D.i1z D.l1z sa.extBut pa) fun gb e sb he => ?_)
    have zb : IsZip gb z ti out .ellipsis := sb _ _ D.i1z.symm za
    exact wpAny_setField_rec zb (by simp) fun gc _ sc => last ia ga gb e D.i1z za (fun c o n1 _ _ _ g => sa.extBut _ _ n1 g) (.inl rfl) sb he (m := .none) gc sc zb
  | some x =>
    have hy : oy = none := by
      rcases en with h | h
      · cases h
      · exact h
    refine wpAny_bind (Sa.next rfl (Sa.keep D.i1z D.l1z sa.extBut pa) fun gb pa2 sb => wpAny_pure ?_)
    have ob : IsPair gb out p q := sb.extBut _ _ D.TOi1 (sa.extBut _ _ D.TOz e3)
    refine wpAny_bind (wpAny_seqItems ob rfl (wpAny_bind (wpAny_updateSeq_pair ob fun gc oc sc => ?_)))
    refine wpAny_bind (wpAny_letGo (wpAny_pure (wpAny_bind (wpAny_bind (wpAny_onRaise ?_)))))
    show wpAny _ _ (Builtin.SmallTypes.nextOf (.ref ib) >>= _) _ _ _
    refine wpAny_bind (Sb.stop hy hh (Sb.keep D.TOi2.symm D.l2TO sc.extBut (Sb.keep D.i12.symm D.l2i1 sb.extBut (Sb.keep D.i2z D.l2z sa.extBut pb))) fun gd e sd he => ?_)
    have zc : IsZip gc z ti out .ellipsis := sc.extBut _ _ D.TOz.symm (sb.extBut _ _ D.i1z.symm za)
    have zd : IsZip gd z ti out .ellipsis := sd _ _ D.i2z.symm zc
    exact wpAny_setField_rec zd (by simp) fun ge _ se => last ib gc gd e D.i2z zc (fun c o n1 n2 n3 _ g => sc.extBut _ _ n2 (sb.extBut _ _ n3 (sa.extBut _ _ n1 g))) (.inr rfl) sd he (m := .none) ge se zd
theorem sides_next {Q : Option Value → Shared → Prop} (D : ZipApart z ti out ia ib la lb) (Sa : Side ia la Pa Pa' (some x)) (Sb : Side ib lb Pb Pb' (some y))
    (e1 : IsZip s.heap z ti out .none) (e2 : IsPair s.heap ti (.ref ia) (.ref ib)) (e3 : IsPair s.heap out p q) (pa : Pa s.heap) (pb : Pb s.heap)
    (k : ∀ g, IsZip g z ti out (rawInt s.heap.objs.size) → IsPair g out x y → Pa' g → Pb' g → IsPair g s.heap.objs.size x y → g.objs.size = s.heap.objs.size + 1 → (∀ c o, c ≠ z → c ≠ out → c ≠ ia → c ≠ ib → s.heap.get? c = some o → g.get? c = some o) → Q (some (.ref s.heap.objs.size)) { s with heap := g }) :
    wpAny (model pr wd) B (pyNext (.ref z)) Q E s := by
  have ty : s.TypeIs (.ref z) "zip" := ⟨_, e1, rfl⟩
  unfold pyNext
  refine wpAny_bind (wpAny_attempt (wpAny_callSpecial?_slot (name := Str.ofString "__next__") ty F.slot_zip_next (wpAny_call_entry F.slot_zip_next ty F.entry_zip_next ?_ (F.args_zip_next_1 _))))
  exact sides_item D Sa Sb e1 e2 e3 pa pb fun g a1 a2 a3 a4 a5 a6 a7 => wpAny_pure (k g a1 a2 a3 a4 a5 a6 a7)
theorem sides_done {Q : Option Value → Shared → Prop} (hh : B.handled = none) (D : ZipApart z ti out ia ib la lb) (Sa : Side ia la Pa Pa' ox) (Sb : Side ib lb Pb Pb' oy)
    (e1 : IsZip s.heap z ti out .none) (e2 : IsPair s.heap ti (.ref ia) (.ref ib)) (e3 : IsPair s.heap out p q) (pa : Pa s.heap) (pb : Pb s.heap) (en : ox = none ∨ oy = none)
    (k : ∀ g, (∀ c o, c ≠ z → c ≠ out → c ≠ ia → c ≠ ib → s.heap.get? c = some o → g.get? c = some o) → Q none { s with heap := g }) : wpAny (model pr wd) B (pyNext (.ref z)) Q E s := by
  have ty : s.TypeIs (.ref z) "zip" := ⟨_, e1, rfl⟩
  unfold pyNext
  refine wpAny_bind (wpAny_attempt (wpAny_callSpecial?_slot (name := Str.ofString "__next__") ty F.slot_zip_next (wpAny_call_entry F.slot_zip_next ty F.entry_zip_next (sides_end hh D Sa Sb e1 e2 e3 pa pb en fun g e kp he => ?_) (F.args_zip_next_1 _))))
  obtain ⟨o, h1, h2⟩ := he
  exact wpAny_bind (wpAny_isInstance (T := "StopIteration") (b := true) ⟨o, h1, h2⟩ isSubtype_stop (wpAny_pure (k _ kp)))
end
end PV

set_option maxHeartbeats 4000000
/-! PV: zip of a list and a tuple, as a turn and as a call. -/
namespace PV
open PySem PySem.Spec PyProof.Rows L2 RZ
open PySem.Sem (wp)
/-- the list at a and the tuple at b, in new pairs -/
def ItzM (K : PySem.W.Frag) (a b : Addr) : It where
  go := fun i H => ∃ (vs ws : List V) (v w : V), SqL K H a vs ∧ SqT K H b ws ∧ vs[i]? = some v ∧ ws[i]? = some w
  yld := fun i H r H' => ∃ N v w, r = .ref N ∧ H N = none ∧ H' = upd H N (.tup [v, w]) ∧ (∀ vs, SqL K H a vs → vs[i]? = some v) ∧ ∀ ws, SqT K H b ws → ws[i]? = some w
  stop := fun i H => ∃ vs ws : List V, SqL K H a vs ∧ SqT K H b ws ∧ (vs.length ≤ i ∨ ws.length ≤ i)
theorem five {z ti out ia ib c : Addr} (h : c ∈ [z, ti, out, ia, ib]) : c = z ∨ c = ti ∨ c = out ∨ c = ia ∨ c = ib := by simpa using h
theorem turn_zipM {P : Program} {w : World} {K : PySem.W.Frag} {es : List Expr} {kk : Nat} {tp : Pos} {a b z ti out ia ib : Addr} (D : ZipApart z ti out ia ib a b) :
    Turn P w K (.Tuple es kk tp) (ItzM K a b) [z, ti, out, ia, ib] z (fun i h => IsZip h z ti out .none ∧ IsPair h ti (.ref ia) (.ref ib) ∧ (∃ x y, IsPair h out x y) ∧ h.IsListIter ia a i ∧ h.IsTupleIter ib b i) where
  mem := by simp
  obj := fun i h q c hc => by
    obtain ⟨q1, q2, ⟨x, y, q3⟩, ⟨o1, f1, _, d1⟩, ⟨o2, f2, _, d2⟩⟩ := q
    rcases five hc with e | e | e | e | e <;> subst e
    · exact ⟨_, q1, fun v r => nomatch r⟩
    · exact ⟨_, q2, fun v r => nomatch r⟩
    · exact ⟨_, q3, fun v r => nomatch r⟩
    · exact ⟨o1, f1, fun v r => by rw [d1] at r; cases r⟩
    · exact ⟨o2, f2, fun v r => by rw [d2] at r; cases r⟩
  keep := fun i h g q k => by
    obtain ⟨q1, q2, ⟨x, y, q3⟩, q4, q5⟩ := q
    refine ⟨k z (by simp) _ q1, k ti (by simp) _ q2, ⟨x, y, k out (by simp) _ q3⟩, q4.at fun o r => ?_, q5.at fun o r => ?_⟩
    · exact k ia (by simp) o r
    · exact k ib (by simp) o r
  item := by
    intro X e1 e2 e3 hc i pins s σ H E I hf q hg
    subst e1 e2 e3
    obtain ⟨q1, q2, ⟨x0, y0, q3⟩, q4, q5⟩ := q
    obtain ⟨vs, ws, v, u, sv, sw, hv, hu⟩ := hg
    obtain ⟨ls, rv, pv, _⟩ := I.list sv
    obtain ⟨lt, rw', pt, _⟩ := I.tuple sw
    obtain ⟨m, hm, rm⟩ := rv.get hv
    obtain ⟨n, hn, rn⟩ := rw'.get hu
    have zl : z < s.heap.objs.size := Heap.lt_size q1
    have em : ls.toArray[i]? = some m := by simpa using hm
    have en : lt.toArray[i]? = some n := by simpa using hn
    have Sa := side_list (it := ia) (l := a) (i := i) (xs := ls.toArray) D.l1i1
    have Sb := side_tuple (it := ib) (l := b) (i := i) (xs := lt.toArray) D.l2i2
    rw [em] at Sa
    rw [en] at Sb
    refine sides_next D Sa Sb q1 q2 q3 ⟨q4, pv.isList⟩ ⟨q5, pt⟩ fun g z1 o1 pa pb nw _ hk => ⟨_, rfl, wpAny_letOwnedTupleGo_zip (s := { s with heap := g }) z1 fun g2 z2 sb => ?_⟩
    have nw2 : g2.get? s.heap.objs.size = some { cls := .type "tuple", data := .seq #[m, n] } := (sb.2 _ (Nat.ne_of_gt zl)).trans nw
    have ok : ObjOk X.prog X.w (upd H s.heap.objs.size (.tup [v, u])) g2 s.heap.objs.size (.tup [v, u]) := ⟨by show 2 ≤ sizeLine; decide, [m, n], .cons rm (.cons rn .nil), ⟨_, nw2, rfl, _, rfl⟩⟩
    have kp : ∀ c o, c ∉ [z, ti, out, ia, ib] → s.heap.get? c = some o → g2.get? c = some o := fun c o nb r => by
      have nb := (not_congr (show c ∈ [z, ti, out, ia, ib] ↔ c = z ∨ c = ti ∨ c = out ∨ c = ia ∨ c = ib by simp)).mp nb
      simp only [not_or] at nb
      exact (sb.2 _ nb.1).trans (hk c o nb.1 nb.2.2.1 nb.2.2.2.1 nb.2.2.2.2 r)
    have I1 := I.turnedNew (t' := s.toks) (ch := [z, ti, out, ia, ib]) kp hf (Nat.le_refl _) ok
    refine ⟨.ref s.heap.objs.size, _, I1, rfl, ⟨_, v, u, rfl, I.hok.fresh (Nat.le_refl _), rfl, fun l hl => ?_, fun l hl => ?_⟩, ⟨z2, ?_, ⟨m, n, ?_⟩, ?_, ?_⟩, fun c hcm => ?_⟩
    · rw [I.list_inj hl sv]; exact hv
    · rw [I.tuple_inj hl sw]; exact hu
    · exact (sb.2 _ D.TIz).trans (hk _ _ D.TIz D.TITO D.TIi1 D.TIi2 q2)
    · exact (sb.2 _ D.TOz).trans o1
    · exact pa.1.at fun o r => (sb.2 _ D.i1z).trans r
    · exact pb.1.at fun o r => (sb.2 _ D.i2z).trans r
    · have lc : c < s.heap.objs.size := by
        rcases five hcm with e | e | e | e | e <;> rw [e]
        · exact zl
        · exact Heap.lt_size q2
        · exact Heap.lt_size q3
        · obtain ⟨_, r, _⟩ := q4; exact Heap.lt_size r
        · obtain ⟨_, r, _⟩ := q5; exact Heap.lt_size r
      rw [upd_ne (Nat.ne_of_lt lc)]
      exact (hf c hcm).1
  done := by
    intro X e1 e2 e3 hc i pins s σ H E I hf q hg
    subst e1 e2 e3
    obtain ⟨q1, q2, ⟨x0, y0, q3⟩, q4, q5⟩ := q
    obtain ⟨vs, ws, sv, sw, hend⟩ := hg
    obtain ⟨ls, rv, pv, _⟩ := I.list sv
    obtain ⟨lt, rw', pt, _⟩ := I.tuple sw
    have n1 := rv.length
    have n2 := rw'.length
    have en : ls.toArray[i]? = none ∨ lt.toArray[i]? = none := by
      rcases hend with r | r
      · left; simp; omega
      · right; simp; omega
    refine sides_done (I.ok.hd hc) D (side_list (i := i) D.l1i1) (side_tuple (i := i) D.l2i2) q1 q2 q3 ⟨q4, pv.isList⟩ ⟨q5, pt⟩ en fun g hk => ⟨rfl, I.turnedL (t' := s.toks) (ch := [z, ti, out, ia, ib]) (fun c o nb r => ?_) hf⟩
    have nb := (not_congr (show c ∈ [z, ti, out, ia, ib] ↔ c = z ∨ c = ti ∨ c = out ∨ c = ia ∨ c = ib by simp)).mp nb
    simp only [not_or] at nb
    exact hk c o nb.1 nb.2.2.1 nb.2.2.2.1 nb.2.2.2.2 r
  self := fun A i s Q E q h => wpAny_pyIter_zip q.1 h
/-! the heap after zip(..) of a list and a tuple -/
def zo (c : String) (fs : Array Value) : Obj := { cls := .type c, data := .fields fs }
def zs (xs : Array Value) : Obj := { cls := .type "tuple", data := .seq xs }
def zm1 (h : Heap) (a : Addr) : Heap := h.push { cls := .type "list_iterator", data := .fields #[.ref a, .int 0 0] }
def zm2 (h : Heap) (a b : Addr) : Heap := (zm1 h a).push { cls := .type "tuple_iterator", data := .fields #[.ref b, .int 0 0] }
def zm3 (h : Heap) (a b : Addr) : Heap := (zm2 h a b).push (zs #[.ref h.objs.size, .ref (zm1 h a).objs.size])
def zm4 (h : Heap) (a b : Addr) : Heap := (zm3 h a b).push (zs #[.none, .none])
def zm5 (h : Heap) (a b : Addr) : Heap := (zm4 h a b).push (zo "zip" #[.none, .bool false, .bool false, .ref (zm2 h a b).objs.size, .ref (zm3 h a b).objs.size])
theorem meets_zipM (a b : Addr) (xs ys : Array Value) :
    Meets (Builtin.«zip.__new__» ⟨[.type "zip", .ref a, .ref b], []⟩) (fun _ R s => s.heap.IsList a xs ∧ s.heap.IsTuple b ys ∧ R (.ok (.ret (.ref (zm4 s.heap a b).objs.size))) { s with heap := zm5 s.heap a b }) :=
  .of_wp fun pr wd A R s k => by
    obtain ⟨hp, gg, dd, tk, os⟩ := s
    obtain ⟨ha, hb, k⟩ := k
    have sub := sub_zip
    have la : Heap.IsList (Shared.heap ⟨hp, gg, dd, tk, os⟩) a xs := ha
    have lb : Heap.IsTuple (Shared.heap ⟨hp.push { cls := .type "list_iterator", data := .fields #[.ref a, .int 0 0] }, gg, dd, tk, os⟩) b ys := Heap.IsTuple.push hb _
    wp_walk using wpAny_pyIter_list la, wpAny_pyIter_tuple lb
    exact ⟨_, rfl, k⟩
section
variable {pr : Program} {wd : World} {A : Around} {E : Value → Shared → Prop} {s : Shared}
theorem call_zipM {a b : Addr} {xs ys : Array Value} {Q : Value → Shared → Prop} (ha : s.heap.IsList a xs) (hb : s.heap.IsTuple b ys)
    (k : ∀ g, IsZip g (s.heap.objs.size + 4) (s.heap.objs.size + 2) (s.heap.objs.size + 3) .none → IsPair g (s.heap.objs.size + 2) (.ref s.heap.objs.size) (.ref (s.heap.objs.size + 1)) → IsPair g (s.heap.objs.size + 3) .none .none → g.IsListIter s.heap.objs.size a 0 → g.IsTupleIter (s.heap.objs.size + 1) b 0 → (∀ c o, s.heap.get? c = some o → g.get? c = some o) → Q (.ref (s.heap.objs.size + 4)) { s with heap := g }) :
    wpAny (model pr wd) A (call (.type "zip") [.ref a, .ref b]) Q E s := by
  refine callType_new F.called_zip (by decide) (F.typeCall_zip_2 _ _) (F.newCall_zip_2 _ _) (fun obj => F.args_object_init_3 obj _ _) F.entry_zip_new (meets_zipM a b xs ys) ⟨ha, hb, ?_⟩
  have n1 : (zm1 s.heap a).objs.size = s.heap.objs.size + 1 := Heap.size_push ..
  have n2 : (zm2 s.heap a b).objs.size = s.heap.objs.size + 2 := by unfold zm2; rw [Heap.size_push, n1]
  have n3 : (zm3 s.heap a b).objs.size = s.heap.objs.size + 3 := by unfold zm3; rw [Heap.size_push, n2]
  have n4 : (zm4 s.heap a b).objs.size = s.heap.objs.size + 4 := by unfold zm4; rw [Heap.size_push, n3]
  have up : ∀ {h : Heap} {c : Addr} {o o' : Obj}, h.get? c = some o → (h.push o').get? c = some o := fun q => Heap.get?_push_of_some _ q
  have g5 : (zm5 s.heap a b).get? (zm4 s.heap a b).objs.size = some _ := Heap.get?_push_size _ rfl
  have g4 : (zm5 s.heap a b).get? (zm3 s.heap a b).objs.size = some _ := up (Heap.get?_push_size _ rfl)
  have g3 : (zm5 s.heap a b).get? (zm2 s.heap a b).objs.size = some _ := up (up (Heap.get?_push_size _ rfl))
  have g2 : (zm5 s.heap a b).get? (zm1 s.heap a).objs.size = some _ := up (up (up (Heap.get?_push_size _ rfl)))
  have g1 : (zm5 s.heap a b).get? s.heap.objs.size = some _ := up (up (up (up (Heap.get?_push_size _ rfl))))
  show _ ∧ _
  simp only [n1, n2, n3, n4, zo, zs] at g5 g4 g3 g2 g1 ⊢
  exact ⟨⟨_, g5, rfl⟩, k _ g5 g3 g4 ⟨_, g1, rfl, rfl⟩ ⟨_, g2, rfl, rfl⟩ fun c o q => up (up (up (up (up q))))⟩
end
/-- zip of two lists, two tuples, a list and a tuple -/
def iZipM (K : PySem.W.Frag) (ta : TA) : TI := fun σ H R => ta σ H fun vs H1 => ∃ a b xs ys, vs = [.ref a, .ref b] ∧ ((SqL K H1 a xs ∧ SqL K H1 b ys ∧ R (Itz K a b) H1) ∨ (SqT K H1 a xs ∧ SqT K H1 b ys ∧ R (ItzT K a b) H1) ∨ (SqL K H1 a xs ∧ SqT K H1 b ys ∧ R (ItzM K a b) H1))
theorem pi_zipM {X : Cx} {e e2 : Expr} {ta : TA} {p pos tpos : Pos} {es : List Expr} {kk : Nat} (hg : Gl X "zip") (hm : X.mg "zip" = none) (ha : PA X [e, e2] ta)
    (hs : starEach [e, e2] X.env = (false, eval e X.env) :: starEach [e2] X.env := by rfl) (hpl : (backTo pos (starEach [e2] X.env)).any (·.1) = false := by rfl) :
    PI X (.Tuple es kk tpos) (.Call (.Name "zip" p) [e, e2] [] pos) (iZipM X.K ta) := by
  refine ⟨fun pins s σ H R I h => Call_ (ld_blt I hg hm PyProof.Rows.boot_zip (PyProof.Rows.callWith_type1 (thn (ha.run pos pins s σ H _ I h) fun us s1 ⟨vs, H1, I1, r1, q1⟩ => ?_) hs hpl))⟩
  obtain ⟨a, b, xs, ys, rfl, q1⟩ := q1
  obtain ⟨u1, us, rfl, r, r1⟩ : ∃ u1 us', us = u1 :: us' ∧ RelV (.ref a) u1 ∧ Vals [.ref b] us' := by cases r1 with | cons r rr => exact ⟨_, _, rfl, r, rr⟩
  obtain ⟨u2, rfl, r2⟩ := vals1 r1
  cases r
  cases r2
  generalize hN : s1.heap.objs.size = N
  have fr : ∀ c, c ∈ [N + 4, N + 2, N + 3, N, N + 1] → FpOk X pins H1 c := fun c hcm => by
    have le : s1.heap.objs.size ≤ c := by rw [hN]; rcases five hcm with e | e | e | e | e <;> rw [e] <;> first | exact Nat.le_add_right _ _ | exact Nat.le_refl _
    exact I1.fpOk le (I1.hok.fresh le)
  have ap : ∀ c d : Addr, c < N → d < N → ZipApart (N + 4) (N + 2) (N + 3) N (N + 1) c d := fun c d h1 h2 => PySem.W.ktu_apart N c d h1 h2
  rcases q1 with ⟨sx, sy, q⟩ | ⟨sx, sy, q⟩ | ⟨sx, sy, q⟩
  · obtain ⟨l1, _, p1, _⟩ := I1.list sx
    obtain ⟨l2, _, p2, _⟩ := I1.list sy
    refine call_zip_2 p1.isList p2.isList fun g h1 h2 h3 h4 h5 _ hk => ?_
    rw [hN] at h1 h2 h3 h4 h5 ⊢
    exact wpAny_pyIter_zip h1 ⟨N + 4, [N + 4, N + 2, N + 3, N, N + 1], _, _, H1, rfl, I1.kept (t' := s1.toks) hk, turn_zip (ap a b (hN ▸ p1.lt) (hN ▸ p2.lt)), ⟨h1, h2, ⟨_, _, h3⟩, h4, h5⟩, fr, q⟩
  · obtain ⟨l1, _, p1, _⟩ := I1.tuple sx
    obtain ⟨l2, _, p2, _⟩ := I1.tuple sy
    obtain ⟨o1, f1, _⟩ := id p1
    obtain ⟨o2, f2, _⟩ := id p2
    refine call_zipT (show s1.heap.IsTuple a l1.toArray from p1) (show s1.heap.IsTuple b l2.toArray from p2) fun g h1 h2 h3 h4 h5 _ hk => ?_
    rw [hN] at h1 h2 h3 h4 h5 ⊢
    exact wpAny_pyIter_zip h1 ⟨N + 4, [N + 4, N + 2, N + 3, N, N + 1], _, _, H1, rfl, I1.kept (t' := s1.toks) hk, turn_zipT (ap a b (hN ▸ Heap.lt_size f1) (hN ▸ Heap.lt_size f2)), ⟨h1, h2, ⟨_, _, h3⟩, h4, h5⟩, fr, q⟩
  · obtain ⟨l1, _, p1, _⟩ := I1.list sx
    obtain ⟨l2, _, p2, _⟩ := I1.tuple sy
    obtain ⟨o2, f2, _⟩ := id p2
    refine call_zipM p1.isList (show s1.heap.IsTuple b l2.toArray from p2) fun g h1 h2 h3 h4 h5 hk => ?_
    rw [hN] at h1 h2 h3 h4 h5 ⊢
    exact wpAny_pyIter_zip h1 ⟨N + 4, [N + 4, N + 2, N + 3, N, N + 1], _, _, H1, rfl, I1.kept (t' := s1.toks) hk, turn_zipM (ap a b (hN ▸ p1.lt) (hN ▸ Heap.lt_size f2)), ⟨h1, h2, ⟨_, _, h3⟩, h4, h5⟩, fr, q⟩
end PV

set_option maxHeartbeats 4000000
/-! PV: sources that are lists or tuples, zip; targets; blocks. -/
namespace PV
open PySem L2 RZ

theorem wk_tup {K : PySem.W.Frag} {aa : Addr} {vs : List V} {ds : List D} {O : List Addr} {H1 : Hp} {G : List Addr → Hp → Prop} (r : Rps K (hid O H1) vs ds) (hs : ∀ O' H', G O' H' → SqT K H' aa vs ∧ Le (hid O H1) (hid O' H')) : Wk K (Itt K aa) ds G := fun O' H' hG n => by
  obtain ⟨h1, h2⟩ := hs O' H' hG
  refine ⟨fun d hd => ?_, fun h => ⟨vs, h1, by rw [r.length]; exact h⟩⟩
  obtain ⟨v, hv, rv⟩ := r.getD hd
  refine ⟨⟨vs, v, h1, hv⟩, fun x H'' hy => ?_⟩
  obtain ⟨rfl, hy⟩ := hy
  have e := hy vs h1
  rw [hv] at e
  cases e
  exact ⟨Le.refl _, rv.mono h2⟩
theorem zip_get : ∀ {xs ys : List D} {n : Nat} {d : D}, (zip2 xs ys)[n]? = some d → ∃ x y, xs[n]? = some x ∧ ys[n]? = some y ∧ d = .tuple [x, y]
  | [], _, _, _, h => by simp [zip2] at h
  | _ :: _, [], _, _, h => by simp [zip2] at h
  | x :: xs, y :: ys, 0, d, h => ⟨x, y, rfl, rfl, by
    have h : some (PyData.tuple [x, y]) = some d := by simpa [zip2] using h
    exact (Option.some.inj h).symm⟩
  | x :: xs, y :: ys, n + 1, d, h => zip_get (xs := xs) (ys := ys) (n := n) (by
    have h : ((xs.zip ys).map fun p => PyData.tuple [p.1, p.2])[n]? = some d := by simpa [zip2] using h
    exact h)
theorem zip_len (xs ys : List D) : (zip2 xs ys).length = min xs.length ys.length := by simp [zip2]
/-- a value that a loop may walk: its items stay where G holds -/
def SrcV (K : PySem.W.Frag) (G : List Addr → Hp → Prop) (O : List Addr) (H1 : Hp) (v : V) (d : D) (ds : List D) : Prop := ∃ a vs, v = .ref a ∧ Rps K (hid O H1) vs ds ∧
  ((d = .list ds ∧ SqL K H1 a vs ∧ ∀ O' H', G O' H' → SqL K H' a vs ∧ Le (hid O H1) (hid O' H')) ∨ (d = .tuple ds ∧ SqT K H1 a vs ∧ ∀ O' H', G O' H' → SqT K H' a vs ∧ Le (hid O H1) (hid O' H')))
theorem srcv {K : PySem.W.Frag} {fz : Bool} {σ : L2.St} {ρ : Env} {O : List Addr} {H1 : Hp} {v : V} {d : D} {ds : List D} (b : Br K O H1 v d) (lo : LsOw O σ ρ v d) (rp : fz = true → Rp K (hid O H1) v d) (h : items d = some ds) : SrcV K (Gk fz σ ρ O H1) O H1 v d ds := by
  rcases items_some h with rfl | rfl
  · obtain ⟨a, vs, rfl, r, e⟩ := b.lst
    refine ⟨a, vs, rfl, r, .inl ⟨rfl, SqL.of e, fun O' H' hG => ⟨SqL.of ?_, hG.2.1⟩⟩⟩
    by_cases hm : a ∈ O
    · cases fz with
      | false => rw [hG.2.2 rfl a (lo a ds rfl rfl hm)]; exact e
      | true => cases rp rfl with | lst hs _ => exact absurd hm (hid_out hs)
    · exact hid_le O' H' _ _ (hG.2.1 _ _ (hid_in hm e))
  · obtain ⟨a, vs, rfl, r, e, rr⟩ := b.tup
    cases rr with
    | @tup a2 vs2 _ hs r2 =>
      exact ⟨a, vs2, rfl, r2, .inr ⟨rfl, (hid_le O H1).st hs, fun O' H' hG => ⟨(hid_le O' H').st (hG.2.1.st hs), hG.2.1⟩⟩⟩
section
variable {P : Pm} {ct : Ct} {X : Cx} {k : Nat} {a b c d : E} {x y z u : Expr} {pos : Pos}
def tM (P : Pm) (K : PySem.W.Frag) (fz : Bool) (c : E) : TE := fun σ H Q => ∃ O0 H0 O ρ R, Sim K P.w P.iw O0 H0 O H σ ρ ∧ NoOw (esc (!fz) c) ρ ∧ P.ev c ρ R ∧ ∀ d v H', R d → Ext P.w H H' → Br K O H' v d → LsOw O σ ρ v d → (fz = true → Rp K (hid O H') v d) → Q v H'
theorem snd_M {fz : Bool} (hE : PE X x (tE P X.K a)) (hB : PE X x (tB P X.K a)) : PE X x (tM P X.K fz a) := by
  cases fz with
  | true =>
    refine hE.imp fun σ H Q q => ?_
    obtain ⟨O0, H0, O, ρ, R, S, es, ev, q⟩ := q
    exact ⟨O0, H0, O, ρ, R, S, es, ev, fun d v H' hr he r => q d v H' hr he (.inl r.1) (fun p ds z1 z2 z3 => by subst z1; subst z2; cases r.1 with | lst hs _ => exact absurd z3 (hid_out hs)) fun _ => r.1⟩
  | false =>
    refine hB.imp fun σ H Q q => ?_
    obtain ⟨O0, H0, O, ρ, R, S, es, ev, q⟩ := q
    exact ⟨O0, H0, O, ρ, R, S, es, ev, fun d v H' hr he r lo => q d v H' hr he r lo fun z => by cases z⟩
theorem escW_val (fz : Bool) : escW fz (.val a) = esc (!fz) a := by cases fz <;> simp [escW, escF, escS]
theorem escW_zip (fz : Bool) : escW fz (.zip a b) = esc (!fz) a ++ esc (!fz) b := by cases fz <;> simp [escW, escF, escS]
theorem snd_val {fz : Bool} {tg : Expr} (h : PE X x (tM P X.K fz a)) : PI X tg x (tI P X.K fz (.val a)) :=
  pi_imp (pi_seq h) fun σ H R q => by
    obtain ⟨O0, H0, O, ρ, S', S, es, ev, q⟩ := q
    have ev : P.ev a ρ fun x => wM.lift (items x) S' := by unfold Pm.evS PV.evS at ev; exact ev
    rw [escW_val] at es
    refine ⟨O0, H0, O, ρ, _, S, es, ev, fun d v H1 hd e1 ba lo rp => ?_⟩
    obtain ⟨ds, hds, hS⟩ := wlift hd
    obtain ⟨p, vs, rfl, r, h⟩ := srcv ba lo rp hds
    have hl := r.length
    refine ⟨p, vs, rfl, ?_⟩
    rcases h with ⟨_, h1, h2⟩ | ⟨_, h1, h2⟩
    · exact .inl ⟨h1, fun hz => q ds _ H1 hS (by rw [← hl, line_eq]; exact hz) e1 (wk_list r h2)⟩
    · exact .inr ⟨h1, fun hz => q ds _ H1 hS (by rw [← hl, line_eq]; exact hz) e1 (wk_tup r h2)⟩
/-- with the bound of a line -/
theorem pe_bnd {e : Expr} {t : TE} (h : PE X e t) : PE X e (fun σ H Q => t σ H fun v H' => (∀ p xs, v = .ref p → SqL X.K H' p xs ∨ SqT X.K H' p xs → xs.length ≤ sizeLine) → Q v H') :=
  ⟨fun pins s σ H Q I q => thn (h.run pins s σ H _ I q) fun w s1 ⟨v, H1, I1, rv, q1⟩ => ⟨v, H1, I1, rv, q1 fun p xs _ hs => by
    rcases hs with hs | hs
    · exact (I1.list hs).elim fun _ z => z.2.2
    · exact (I1.tuple hs).elim fun _ z => z.2.2⟩⟩
theorem wk_zip {K : PySem.W.Frag} {p1 p2 : Addr} {vs ws : List V} {ds es : List D} {O : List Addr} {H1 : Hp} {G : List Addr → Hp → Prop} (hG : ∀ O' H', G O' H' → Dm O' H') (r : Rps K (hid O H1) vs ds) (r2 : Rps K (hid O H1) ws es)
    (hs : ∀ O' H', G O' H' → SqL K H' p1 vs ∧ Le (hid O H1) (hid O' H')) (hs2 : ∀ O' H', G O' H' → SqL K H' p2 ws ∧ Le (hid O H1) (hid O' H')) : Wk K (Itz K p1 p2) (zip2 ds es) G := fun O' H' g n => by
  obtain ⟨h1, l1⟩ := hs O' H' g
  obtain ⟨h2, l2⟩ := hs2 O' H' g
  refine ⟨fun d hd => ?_, fun h => ⟨vs, ws, h1, h2, ?_⟩⟩
  · obtain ⟨x, y, hx, hy, rfl⟩ := zip_get hd
    obtain ⟨v, hv, rv⟩ := r.getD hx
    obtain ⟨v2, hv2, rv2⟩ := r2.getD hy
    refine ⟨⟨vs, ws, v, v2, h1, h2, hv, hv2⟩, fun x H'' hy => ?_⟩
    obtain ⟨T, a, b, rfl, hT, rfl, k1, k2⟩ := hy
    have e1 := k1 vs h1
    have e2 := k2 ws h2
    rw [hv] at e1
    rw [hv2] at e2
    cases e1
    cases e2
    have l3 : Le (hid O' H') (hid O' (upd H' T (.tup [v, v2]))) := hid_le_mono (Le.new hT)
    exact ⟨Le.new hT, .tup (.inl (.inl (hid_in (fun hm => hG O' H' g T hm hT) (by simp [upd])))) (.cons (rv.mono (l1.trans l3)) (.cons (rv2.mono (l2.trans l3)) .nil))⟩
  · rw [zip_len, ← r.length, ← r2.length] at h
    omega
theorem wk_zipT {K : PySem.W.Frag} {p1 p2 : Addr} {vs ws : List V} {ds es : List D} {O : List Addr} {H1 : Hp} {G : List Addr → Hp → Prop} (hG : ∀ O' H', G O' H' → Dm O' H') (r : Rps K (hid O H1) vs ds) (r2 : Rps K (hid O H1) ws es)
    (hs : ∀ O' H', G O' H' → SqT K H' p1 vs ∧ Le (hid O H1) (hid O' H')) (hs2 : ∀ O' H', G O' H' → SqT K H' p2 ws ∧ Le (hid O H1) (hid O' H')) : Wk K (ItzT K p1 p2) (zip2 ds es) G := fun O' H' g n => by
  obtain ⟨h1, l1⟩ := hs O' H' g
  obtain ⟨h2, l2⟩ := hs2 O' H' g
  refine ⟨fun d hd => ?_, fun h => ⟨vs, ws, h1, h2, ?_⟩⟩
  · obtain ⟨x, y, hx, hy, rfl⟩ := zip_get hd
    obtain ⟨v, hv, rv⟩ := r.getD hx
    obtain ⟨v2, hv2, rv2⟩ := r2.getD hy
    refine ⟨⟨vs, ws, v, v2, h1, h2, hv, hv2⟩, fun x H'' hy => ?_⟩
    obtain ⟨T, a, b, rfl, hT, rfl, k1, k2⟩ := hy
    have e1 := k1 vs h1
    have e2 := k2 ws h2
    rw [hv] at e1
    rw [hv2] at e2
    cases e1
    cases e2
    have l3 : Le (hid O' H') (hid O' (upd H' T (.tup [v, v2]))) := hid_le_mono (Le.new hT)
    exact ⟨Le.new hT, .tup (.inl (.inl (hid_in (fun hm => hG O' H' g T hm hT) (by simp [upd])))) (.cons (rv.mono (l1.trans l3)) (.cons (rv2.mono (l2.trans l3)) .nil))⟩
  · rw [zip_len, ← r.length, ← r2.length] at h
    omega
theorem wk_zipM {K : PySem.W.Frag} {p1 p2 : Addr} {vs ws : List V} {ds es : List D} {O : List Addr} {H1 : Hp} {G : List Addr → Hp → Prop} (hG : ∀ O' H', G O' H' → Dm O' H') (r : Rps K (hid O H1) vs ds) (r2 : Rps K (hid O H1) ws es)
    (hs : ∀ O' H', G O' H' → SqL K H' p1 vs ∧ Le (hid O H1) (hid O' H')) (hs2 : ∀ O' H', G O' H' → SqT K H' p2 ws ∧ Le (hid O H1) (hid O' H')) : Wk K (ItzM K p1 p2) (zip2 ds es) G := fun O' H' g n => by
  obtain ⟨h1, l1⟩ := hs O' H' g
  obtain ⟨h2, l2⟩ := hs2 O' H' g
  refine ⟨fun d hd => ?_, fun h => ⟨vs, ws, h1, h2, ?_⟩⟩
  · obtain ⟨x, y, hx, hy, rfl⟩ := zip_get hd
    obtain ⟨v, hv, rv⟩ := r.getD hx
    obtain ⟨v2, hv2, rv2⟩ := r2.getD hy
    refine ⟨⟨vs, ws, v, v2, h1, h2, hv, hv2⟩, fun x H'' hy => ?_⟩
    obtain ⟨T, a, b, rfl, hT, rfl, k1, k2⟩ := hy
    have e1 := k1 vs h1
    have e2 := k2 ws h2
    rw [hv] at e1
    rw [hv2] at e2
    cases e1
    cases e2
    have l3 : Le (hid O' H') (hid O' (upd H' T (.tup [v, v2]))) := hid_le_mono (Le.new hT)
    exact ⟨Le.new hT, .tup (.inl (.inl (hid_in (fun hm => hG O' H' g T hm hT) (by simp [upd])))) (.cons (rv.mono (l1.trans l3)) (.cons (rv2.mono (l2.trans l3)) .nil))⟩
  · rw [zip_len, ← r.length, ← r2.length] at h
    omega
theorem zipD_some {d1 d2 : D} {ds : List D} (h : zipD d1 d2 = some ds) : ∃ xs ys, ds = zip2 xs ys ∧ ((d1 = .list xs ∧ d2 = .list ys) ∨ (d1 = .tuple xs ∧ d2 = .tuple ys) ∨ (d1 = .list xs ∧ d2 = .tuple ys)) := by
  cases d1 <;> cases d2 <;> simp [zipD] at h
  · exact ⟨_, _, h.symm, .inl ⟨rfl, rfl⟩⟩
  · exact ⟨_, _, h.symm, .inr (.inr ⟨rfl, rfl⟩)⟩
  · exact ⟨_, _, h.symm, .inr (.inl ⟨rfl, rfl⟩)⟩
theorem snd_zip (g : Gd P ct X k) {fz : Bool} {es : List Expr} {kk : Nat} {p tp : Pos} (hg : isGl ct "zip" = true) (hs : notStar x = true) (hs2 : notStar y = true) (ha : PE X x (tM P X.K fz a)) (hb : PE X y (tM P X.K fz b)) :
    PI X (.Tuple es kk tp) (.Call (.Name "zip" p) [x, y] [] pos) (tI P X.K fz (.zip a b)) :=
  pi_imp (pi_zipM (g.gl hg) (g.blt _ (by decide)) (pa_cons ha (pa_cons (pe_bnd hb) pa_nil (star_cons hs2)) (star_cons hs)) (star_cons hs) (plain1 hs2)) fun σ H R q => by
    obtain ⟨O0, H0, O, ρ, S', S, es, ev, q⟩ := q
    have ev : P.ev a ρ fun x => P.ev b ρ fun y => wM.lift (zipD x y) S' := by unfold Pm.evS PV.evS at ev; exact ev
    rw [escW_zip] at es
    refine ⟨O0, H0, O, ρ, _, S, noOw_l es, ev, fun d v H1 hd e1 ba lo rp => ⟨O0, H0, O, ρ, _, S.ext e1, noOw_r es, hd, fun d2 v2 H2 hd e2 ba2 lo2 rp2 bnd => ?_⟩⟩
    obtain ⟨ds, hds, hS⟩ := wlift hd
    have ba1 := ba.ext e2 S.wo e1.2
    obtain ⟨xs, ys, rfl, h⟩ := zipD_some hds
    rcases h with ⟨rfl, rfl⟩ | ⟨rfl, rfl⟩ | ⟨rfl, rfl⟩
    · obtain ⟨p1, vs, rfl, r1, h1⟩ := srcv (fz := fz) (ds := xs) ba1 lo (fun z => (rp z).mono (e2.hid S.wo)) rfl
      obtain ⟨p2, ws, rfl, r2, h2⟩ := srcv (fz := fz) (ds := ys) ba2 lo2 rp2 rfl
      rcases h1 with ⟨_, h1, g1⟩ | ⟨z, _⟩
      · rcases h2 with ⟨_, h2, g2⟩ | ⟨z, _⟩
        · have hz := bnd p2 ws rfl (.inl h2)
          refine ⟨p1, p2, vs, ws, rfl, .inl ⟨h1, h2, q _ _ H2 hS ?_ (e1.trans e2) (wk_zip (fun _ _ z => z.1) r1 r2 g1 g2)⟩⟩
          rw [zip_len, ← r2.length, line_eq]
          omega
        · cases z
      · cases z
    · obtain ⟨p1, vs, rfl, r1, h1⟩ := srcv (fz := fz) (ds := xs) ba1 lo (fun z => (rp z).mono (e2.hid S.wo)) rfl
      obtain ⟨p2, ws, rfl, r2, h2⟩ := srcv (fz := fz) (ds := ys) ba2 lo2 rp2 rfl
      rcases h1 with ⟨z, _⟩ | ⟨_, h1, g1⟩
      · cases z
      · rcases h2 with ⟨z, _⟩ | ⟨_, h2, g2⟩
        · cases z
        · have hz := bnd p2 ws rfl (.inr h2)
          refine ⟨p1, p2, vs, ws, rfl, .inr (.inl ⟨h1, h2, q _ _ H2 hS ?_ (e1.trans e2) (wk_zipT (fun _ _ z => z.1) r1 r2 g1 g2)⟩)⟩
          rw [zip_len, ← r2.length, line_eq]
          omega
    · obtain ⟨p1, vs, rfl, r1, h1⟩ := srcv (fz := fz) (ds := xs) ba1 lo (fun z => (rp z).mono (e2.hid S.wo)) rfl
      obtain ⟨p2, ws, rfl, r2, h2⟩ := srcv (fz := fz) (ds := ys) ba2 lo2 rp2 rfl
      rcases h1 with ⟨_, h1, g1⟩ | ⟨z, _⟩
      · rcases h2 with ⟨z, _⟩ | ⟨_, h2, g2⟩
        · cases z
        · have hz := bnd p2 ws rfl (.inr h2)
          refine ⟨p1, p2, vs, ws, rfl, .inr (.inr ⟨h1, h2, q _ _ H2 hS ?_ (e1.trans e2) (wk_zipM (fun _ _ z => z.1) r1 r2 g1 g2)⟩)⟩
          rw [zip_len, ← r2.length, line_eq]
          omega
      · cases z
end

/-! ### slots -/
section
variable {K : PySem.W.Frag} {w : Wp} {iw : Nat} {O0 O : List Addr} {H0 H : Hp} {σ : L2.St} {ρ : Env}
/-- a slot is set to a value that others may hold -/
theorem Sim.setSh (S : Sim K w iw O0 H0 O H σ ρ) {i : Nat} {v : V} {d : D} (r : Rp K (hid O H) v d) (hi : i ≠ iw) : Sim K w iw O0 H0 O H (σ.set i (some v)) (ρ.set i (.sh d)) where
  len := by simp [S.len]
  slot := fun j s h => by
    by_cases e : i = j
    · subst e
      by_cases hl : i < ρ.length
      · rw [List.getElem?_set_self hl] at h
        cases h
        refine ⟨v, ?_, r⟩
        rw [List.getElem?_set_self (by rw [S.len]; exact hl)]
        rfl
      · rw [List.getElem?_eq_none (by simpa using hl)] at h
        cases h
    · rw [List.getElem?_set_ne e] at h ⊢
      exact S.slot j s h
  inj := fun j l d1 d2 p h1 h2 h3 h4 => by
    by_cases e : i = j
    · subst e
      by_cases hl : i < ρ.length
      · rw [List.getElem?_set_self hl] at h1
        cases h1
      · rw [List.getElem?_eq_none (by simpa using hl)] at h1
        cases h1
    · by_cases e2 : i = l
      · subst e2
        by_cases hl : i < ρ.length
        · rw [List.getElem?_set_self hl] at h2
          cases h2
        · rw [List.getElem?_eq_none (by simpa using hl)] at h2
          cases h2
      · rw [List.getElem?_set_ne e] at h1 h3
        rw [List.getElem?_set_ne e2] at h2 h4
        exact S.inj j l d1 d2 p h1 h2 h3 h4
  dom := S.dom
  dom0 := S.dom0
  sub := S.sub
  fresh := S.fresh
  ent := S.ent
  w0 := S.w0
  wO := S.wO
  wS := fun t ht => by
    rw [List.getElem?_set_ne hi, List.getElem?_set_ne hi]
    exact S.wS t ht
  own := fun j d p h1 h2 => by
    by_cases e : i = j
    · subst e
      by_cases hl : i < ρ.length
      · rw [List.getElem?_set_self hl] at h1
        cases h1
      · rw [List.getElem?_eq_none (by simpa using hl)] at h1
        cases h1
    · rw [List.getElem?_set_ne e] at h1 h2
      exact S.own j d p h1 h2
theorem wip_get {vs : List Nat} {ρ : Env} {j : Nat} : (wip vs ρ)[j]? = (ρ[j]?).map fun s => if vs.contains j then Slot.no else s := by
  unfold wip
  rw [List.getElem?_mapIdx]
theorem wipe_get {σ : L2.St} {j : Nat} : ∀ {vs : List Nat}, (wipe σ vs)[j]? = if j ∈ vs then (σ[j]?).map fun _ => none else σ[j]?
  | [] => by simp [wipe]
  | v :: vs => by
    unfold wipe
    by_cases e : v = j
    · subst e
      rw [if_pos (by simp)]
      by_cases hl : v < σ.length
      · rw [List.getElem?_set_self (by rw [wipe_length]; exact hl), List.getElem?_eq_getElem hl]
        rfl
      · rw [List.getElem?_eq_none (by rw [List.length_set, wipe_length]; omega), List.getElem?_eq_none (by omega)]
        rfl
    · rw [List.getElem?_set_ne e, wipe_get]
      have e' : ¬ j = v := fun z => e z.symm
      simp [e']
theorem wipe_idem {σ : L2.St} {vs : List Nat} : wipe (wipe σ vs) vs = wipe σ vs := by
  refine List.ext_getElem? fun j => ?_
  rw [wipe_get, wipe_get]
  by_cases h : j ∈ vs
  · rw [if_pos h, if_pos h]
    cases σ[j]? <;> rfl
  · rw [if_neg h, if_neg h]
theorem wipe_set {σ : L2.St} {vs : List Nat} {i : Nat} {x : Option V} (h : i ∈ vs) : wipe (σ.set i x) vs = wipe σ vs := by
  refine List.ext_getElem? fun j => ?_
  rw [wipe_get, wipe_get]
  by_cases hj : j ∈ vs
  · rw [if_pos hj, if_pos hj]
    by_cases e : i = j
    · subst e
      by_cases hl : i < σ.length
      · rw [List.getElem?_set_self hl, List.getElem?_eq_getElem hl]
        rfl
      · rw [List.getElem?_eq_none (by simpa using hl), List.getElem?_eq_none (by simpa using hl)]
    · rw [List.getElem?_set_ne e]
  · rw [if_neg hj, if_neg hj, List.getElem?_set_ne]
    intro e
    exact hj (by rw [← e]; exact h)
/-- names of a block forgotten -/
theorem Sim.wip (S : Sim K w iw O0 H0 O H σ ρ) {vs : List Nat} (hw : iw ∉ vs) : Sim K w iw O0 H0 O H (wipe σ vs) (PV.wip vs ρ) where
  len := by rw [wipe_length, S.len]; simp [PV.wip]
  slot := fun j s h => by
    rw [wip_get] at h
    rw [wipe_get]
    cases e : ρ[j]? with
    | none => rw [e] at h; cases h
    | some t =>
      rw [e] at h
      by_cases hj : j ∈ vs
      · have : Slot.no = s := by simpa [hj] using h
        subst this
        trivial
      · have : t = s := by simpa [hj] using h
        subst this
        rw [if_neg hj]
        exact S.slot j t e
  inj := fun j l d1 d2 p h1 h2 h3 h4 => by
    obtain ⟨q1, _⟩ := wipe_some h3
    obtain ⟨q2, _⟩ := wipe_some h4
    have k1 : ρ[j]? = some (.ow d1) := by
      rw [wip_get] at h1
      cases e : ρ[j]? with
      | none => rw [e] at h1; cases h1
      | some t =>
        rw [e] at h1
        by_cases hj : j ∈ vs
        · simp [hj] at h1
        · simpa [hj] using h1
    have k2 : ρ[l]? = some (.ow d2) := by
      rw [wip_get] at h2
      cases e : ρ[l]? with
      | none => rw [e] at h2; cases h2
      | some t =>
        rw [e] at h2
        by_cases hj : l ∈ vs
        · simp [hj] at h2
        · simpa [hj] using h2
    exact S.inj j l d1 d2 p k1 k2 q1 q2
  dom := S.dom
  dom0 := S.dom0
  sub := S.sub
  fresh := S.fresh
  ent := S.ent
  w0 := S.w0
  wO := S.wO
  wS := fun t ht => by
    obtain ⟨h1, h2⟩ := S.wS t ht
    rw [wipe_get, if_neg hw, wip_get, h2]
    exact ⟨h1, by simp⟩
  own := fun j d p h1 h2 => by
    obtain ⟨q1, _⟩ := wipe_some h2
    have k1 : ρ[j]? = some (.ow d) := by
      rw [wip_get] at h1
      cases e : ρ[j]? with
      | none => rw [e] at h1; cases h1
      | some t =>
        rw [e] at h1
        by_cases hj : j ∈ vs
        · simp [hj] at h1
        · simpa [hj] using h1
    exact S.own j d p k1 q1
theorem noOw_wip {vs us : List Nat} (h : NoOw us ρ) : NoOw us (wip vs ρ) := fun i hi => by
  have q := h i hi
  unfold getO at q ⊢
  rw [wip_get]
  cases e : ρ[i]? with
  | none => rfl
  | some t =>
    rw [e] at q
    by_cases hj : i ∈ vs
    · simp [hj, Slot.own?]
    · simpa [hj] using q
theorem noOw_set {us : List Nat} {i : Nat} {d : D} (h : NoOw us ρ) : NoOw us (ρ.set i (.sh d)) := fun j hj => by
  have q := h j hj
  unfold getO at q ⊢
  by_cases e : i = j
  · subst e
    by_cases hl : i < ρ.length
    · rw [List.getElem?_set_self hl]
      rfl
    · rw [List.getElem?_eq_none (by simpa using hl)]
      rfl
  · rw [List.getElem?_set_ne e]
    exact q
mutual
theorem noOw_bind {us : List Nat} : ∀ {p : Pat} {d : D} {ρ ρ' : Env}, bindP p d ρ = some ρ' → NoOw us ρ → NoOw us ρ'
  | .nm i, d, ρ, ρ', e, h => by
    unfold bindP at e
    cases e
    exact noOw_set h
  | .tp ps, d, ρ, ρ', e, h => by
    cases d <;> unfold bindP at e <;> first | cases e | exact noOw_binds e h
theorem noOw_binds {us : List Nat} : ∀ {ps : Pats} {ds : List D} {ρ ρ' : Env}, bindPs ps ds ρ = some ρ' → NoOw us ρ → NoOw us ρ'
  | .nil, ds, ρ, ρ', e, h => by
    cases ds <;> unfold bindPs at e <;> cases e
    exact h
  | .cons p ps, ds, ρ, ρ', e, h => by
    cases ds with
    | nil => unfold bindPs at e; cases e
    | cons d ds =>
      unfold bindPs at e
      cases q : bindP p d ρ with
      | none => rw [q] at e; cases e
      | some ρ1 => rw [q] at e; exact noOw_binds e (noOw_bind q h)
end
end

/-! ### targets -/
section
variable {P : Pm} {ct : Ct} {X : Cx} {k : Nat} {pos : Pos}
def tG (P : Pm) (K : PySem.W.Frag) (p : Pat) : TG := fun v σ H Q => ∃ O0 H0 O ρ d ρ', Sim K P.w P.iw O0 H0 O H σ ρ ∧ Rp K (hid O H) v d ∧ bindP p d ρ = some ρ' ∧ ∀ σ', Sim K P.w P.iw O0 H0 O H σ' ρ' → (∀ vs, (∀ i ∈ p.ns, i ∈ vs) → wipe σ' vs = wipe σ vs) → Q σ' H
def tGs (P : Pm) (K : PySem.W.Frag) (ps : Pats) : TGs := fun us σ H Q => ∃ O0 H0 O ρ ds ρ', Sim K P.w P.iw O0 H0 O H σ ρ ∧ Rps K (hid O H) us ds ∧ bindPs ps ds ρ = some ρ' ∧ ∀ σ', Sim K P.w P.iw O0 H0 O H σ' ρ' → (∀ vs, (∀ i ∈ ps.ns, i ∈ vs) → wipe σ' vs = wipe σ vs) → Q σ' H
theorem pg_imp {e : Expr} {t t' : TG} (h : PG X e t') (k : ∀ v σ H Q, t v σ H Q → t' v σ H Q) : PG X e t := ⟨fun pins s σ H v u Q I r q => h.run pins s σ H v u Q I r (k v σ H Q q)⟩
theorem pgs_imp {es : List Expr} {t t' : TGs} (h : PGs X es t') (k : ∀ v σ H Q, t v σ H Q → t' v σ H Q) : PGs X es t := ⟨fun pins s σ H v u Q I r q => h.run pins s σ H v u Q I r (k v σ H Q q)⟩
theorem as_cons {e : Expr} {es : List Expr} {env : PySem.Env} (h : notStar e = true) : assignEach (e :: es) env = (false, assign e env) :: assignEach es env := by
  cases e <;> first | rfl | (simp [notStar] at h)
theorem as_len {ct : Ct} {env : PySem.Env} : ∀ {ps : Pats} {es : List Expr}, chkPs ct ps es = true → (assignEach es env).findIdx? (·.1) = none ∧ ∀ ds ρ ρ', bindPs ps ds ρ = some ρ' → ds.length = (assignEach es env).length
  | .nil, [], _ => ⟨rfl, fun ds ρ ρ' h => by cases ds <;> unfold bindPs at h <;> first | rfl | cases h⟩
  | .nil, _ :: _, h => by unfold chkPs at h; cases h
  | .cons p ps, [], h => by unfold chkPs at h; cases h
  | .cons p ps, e :: es, h => by
    unfold chkPs at h
    rw [Bool.and_eq_true, Bool.and_eq_true] at h
    obtain ⟨h1, h2, h3⟩ := h
    obtain ⟨k1, k2⟩ := as_len (env := env) h3
    rw [as_cons h1]
    refine ⟨by rw [List.findIdx?_cons, k1]; rfl, fun ds ρ ρ' hb => ?_⟩
    cases ds with
    | nil => unfold bindPs at hb; cases hb
    | cons d ds =>
      unfold bindPs at hb
      cases q : bindP p d ρ with
      | none => rw [q] at hb; cases hb
      | some ρ1 =>
        rw [q] at hb
        simp [k2 ds ρ1 ρ' hb]
mutual
theorem snd_pat (g : Gd P ct X k) : ∀ {p : Pat} {e : Expr}, chkP ct p e = true → PG X e (tG P X.K p)
  | .nm i, e, h => by
    unfold chkP at h
    cases hv : vName e with
    | none => rw [hv] at h; cases h
    | some x =>
      rw [hv] at h
      obtain ⟨p, rfl⟩ := vName_eq hv
      simp only [Bool.and_eq_true, beq_iff_eq, Bool.not_eq_true', beq_eq_false_iff_ne] at h
      obtain ⟨⟨h1, h2⟩, h3⟩ := h
      obtain ⟨l, hf⟩ := g.sto x h2
      refine pg_imp (pg_name (by rw [g.hN]; exact g.nd) (by rw [g.hN]; exact h1) l hf) fun v σ H Q q => ?_
      obtain ⟨O0, H0, O, ρ, d, ρ', S, r, hb, q⟩ := q
      unfold bindP at hb
      cases hb
      exact q _ (S.setSh r (by rw [← g.hiw]; exact h3)) fun vs hvs => wipe_set (hvs i (by simp [Pat.ns]))
  | .tp ps, e, h => by
    unfold chkP at h
    cases hv : vTup e with
    | none => rw [hv] at h; cases h
    | some es =>
      rw [hv] at h
      obtain ⟨j, p, rfl⟩ := vTup_eq hv
      obtain ⟨k1, k2⟩ := as_len (env := X.env) h
      refine pg_imp (pg_tup g.calm (snd_pats g h) rfl k1) fun v σ H Q q => ?_
      obtain ⟨O0, H0, O, ρ, d, ρ', S, r, hb, q⟩ := q
      cases r with
      | @tup a xs ds hs rs =>
        have hb : bindPs ps ds ρ = some ρ' := by unfold bindP at hb; exact hb
        exact ⟨a, xs, rfl, (hid_le O H).st hs, by rw [rs.length]; exact k2 ds ρ ρ' hb, O0, H0, O, ρ, ds, ρ', S, rs, hb, fun σ' S' hw => q σ' S' fun vs hvs => hw vs (by simpa [Pat.ns] using hvs)⟩
      | _ => unfold bindP at hb; cases hb
theorem snd_pats (g : Gd P ct X k) : ∀ {ps : Pats} {es : List Expr}, chkPs ct ps es = true → PGs X es (tGs P X.K ps)
  | .nil, [], _ => pgs_imp pgs_nil fun v σ H Q q => by
    obtain ⟨O0, H0, O, ρ, d, ρ', S, r, hb, q⟩ := q
    cases r with
    | nil =>
      unfold bindPs at hb
      cases hb
      exact ⟨rfl, q σ S fun _ _ => rfl⟩
    | cons _ _ => unfold bindPs at hb; cases hb
  | .nil, _ :: _, h => by unfold chkPs at h; cases h
  | .cons p ps, [], h => by unfold chkPs at h; cases h
  | .cons p ps, e :: es, h => by
    unfold chkPs at h
    rw [Bool.and_eq_true, Bool.and_eq_true] at h
    obtain ⟨h1, h2, h3⟩ := h
    refine pgs_imp (pgs_cons (snd_pat g h2) (snd_pats g h3) (by rw [as_cons h1]; rfl)) fun v σ H Q q => ?_
    obtain ⟨O0, H0, O, ρ, d, ρ', S, r, hb, q⟩ := q
    cases r with
    | nil => unfold bindPs at hb; cases hb
    | cons r rs =>
      unfold bindPs at hb
      rename_i dd ds
      cases hq : bindP p dd ρ with
      | none => rw [hq] at hb; cases hb
      | some ρ1 =>
        rw [hq] at hb
        refine ⟨_, _, rfl, O0, H0, O, ρ, _, ρ1, S, r, hq, fun σ1 S1 hw1 => ⟨O0, H0, O, ρ1, _, ρ', S1, rs, hb, fun σ2 S2 hw2 => q σ2 S2 fun vs hvs => ?_⟩⟩
        rw [hw2 vs fun i hi => hvs i (by simp [Pats.ns, hi]), hw1 vs fun i hi => hvs i (by simp [Pats.ns, hi])]
end
end
end PV

set_option maxHeartbeats 4000000
/-! PV: comprehensions. -/
namespace PV
open PySem L2 RZ

theorem lookup_rel {k : NameKind} {sc : Scope} {x : Str} (hk : k ≠ .free) : ∀ {l : List (Str × NameKind)}, l.lookup x = some k → (l.map fun (n, k) => if (k == .free && sc.kind == .function && sc.names.lookup n == some .cell) then (n, NameKind.cell) else (n, k)).lookup x = some k
  | [], h => by cases h
  | (n, j) :: r, h => by
    rw [List.lookup_cons] at h
    rw [List.map_cons]
    cases hb : x == n with
    | true =>
      rw [hb] at h
      cases h
      have e : (k == NameKind.free) = false := by cases k <;> first | rfl | exact absurd rfl hk
      simp only [e, Bool.false_and, Bool.false_eq_true, if_false]
      rw [List.lookup_cons, hb]
    | false =>
      rw [hb] at h
      have ih := lookup_rel (sc := sc) hk (l := r) h
      by_cases hc : (j == NameKind.free && sc.kind == .function && sc.names.lookup n == some .cell) = true
      · simp only [hc, if_true]
        rw [List.lookup_cons, hb]
        exact ih
      · simp only [Bool.not_eq_true] at hc
        simp only [hc, Bool.false_eq_true, if_false]
        rw [List.lookup_cons, hb]
        exact ih
section
variable {P : Pm} {ct : Ct} {X : Cx} {k : Nat}
theorem Gd.blk (g : Gd P ct X k) (scope : Scope) (s : Shared) (H : Hp) (C : Addr) (cl : List (Str × Addr)) (fp : List Addr) : Gd P (ct.blk scope) (X.blk s H scope (compEnvC scope cl C X.env) fp) k where
  hN := g.hN
  nd := g.nd
  hsc := by
    show relS scope X.env.scope = relS scope ct.sc
    rw [g.hsc]
  hiw := g.hiw
  calm := g.calm
  room := g.room
  blt := g.blt
  sto := fun x hx => by
    have hx : isLoc scope x = true := hx
    unfold isLoc at hx
    rw [Bool.or_eq_true, beq_iff_eq, beq_iff_eq] at hx
    rcases hx with h | h
    · exact ⟨.inl (lookup_rel (by decide) h), .inr (lookup_rel (by decide) h)⟩
    · refine ⟨.inr (lookup_rel (by decide) h), .inl ?_⟩
      show (scope.names.lookup x == some .cell) = true
      rw [h]
      rfl
  fns := g.fns
  hws := g.hws
  gls := g.gls
theorem ownP_ix {own : List Nat} {p : Str × Nat} (h : p ∈ ownP ct own) : ct.N[p.2]? = some p.1 := by
  unfold ownP at h
  obtain ⟨i, _, h⟩ := List.mem_filterMap.mp h
  cases e : ct.N[i]? with
  | none => rw [e] at h; cases h
  | some x =>
    rw [e] at h
    cases h
    exact e
theorem blk_ok (g : Gd P ct X k) {scope : Scope} {own : List Nat} (h : blkB ct scope own = true) : BlkOk X.N X.env.scope scope (ownP ct own) ∧ (ownP ct own).map (·.2) = own ∧ P.iw ∉ own := by
  unfold blkB at h
  simp only [Bool.and_eq_true] at h
  obtain ⟨⟨⟨⟨⟨h1, h2⟩, h3⟩, h4⟩, h5⟩, h6⟩ := h
  refine ⟨⟨by simpa using h1, fun y hy => ?_, fun p hp => by rw [g.hN]; exact ownP_ix hp, fun y hy e => ?_, fun y hy e => ?_⟩, by simpa using h3, ?_⟩
  · exact beq_iff_eq.mp (List.all_eq_true.mp h2 y hy)
  · have q := List.all_eq_true.mp h4 y hy
    rw [e] at q
    rw [g.hsc]
    simpa using q
  · have q := List.all_eq_true.mp h5 y hy
    rw [g.hN]
    have e2 : (y.2 == NameKind.local || y.2 == NameKind.cell) = true := by rcases e with e | e <;> rw [e] <;> rfl
    rw [e2] at q
    have q : ((ownP ct own).any (fun p => p.1 == y.1) || !ct.N.contains y.1) = true := by simpa using q
    rw [Bool.or_eq_true] at q
    rcases q with q | q
    · obtain ⟨p, hp, e3⟩ := List.any_eq_true.mp q
      exact .inl (List.mem_map.mpr ⟨p, hp, beq_iff_eq.mp e3⟩)
    · exact .inr (by simpa using q)
  · rw [← g.hiw]
    simpa using h6
end

/-! ### a loop that fills the list at D -/
def XD (w : Wp) (D : Addr) (Hs H' : Hp) : Prop := (∀ a o, ¬ w.is a → a ≠ D → Hs a = some o → H' a = some o) ∧ WOk w H'
theorem XD.ext {w : Wp} {D : Addr} {Hs H H' : Hp} (x : XD w D Hs H) (e : Ext w H H') : XD w D Hs H' := ⟨fun a o h1 h2 h3 => e.1 a o h1 (x.1 a o h1 h2 h3), e.2⟩
theorem is_dK {w : Wp} {H : Hp} {a : Addr} (wk : WOk w H) (h : w.is a) : ∃ kvs, H a = some (.dK kvs) := by
  obtain ⟨t, ht, rfl⟩ := h
  rw [ht] at wk
  obtain ⟨j, _, h1, _⟩ := wk
  exact ⟨_, h1⟩
theorem XD.upd {w : Wp} {D : Addr} {Hs H : Hp} {o : HO} (x : XD w D Hs H) (hD : ∀ t, w = some t → D ≠ t.1 ∧ D ≠ t.2.1) : XD w D Hs (upd H D o) := by
  refine ⟨fun a u h1 h2 h3 => ?_, ?_⟩
  · rw [upd_ne h2]
    exact x.1 a u h1 h2 h3
  · have wk := x.2
    cases w with
    | none => trivial
    | some t =>
      obtain ⟨pw, pd, ns⟩ := t
      obtain ⟨k1, k2⟩ := hD _ rfl
      obtain ⟨j, h0, h1, h2⟩ := wk
      exact ⟨j, h0, by rw [upd_ne (fun z => k1 z.symm)]; exact h1, by rw [upd_ne (fun z => k2 z.symm)]; exact h2⟩
theorem lc_loop {K : PySem.W.Frag} {w : Wp} {O : List Addr} {J : It} {ds : List D} {G : List Addr → Hp → Prop} {Hs : Hp} {D : Addr} (F : List PV.D → List PV.D → Prop) (Fin : Hp → Prop) (B : V → Hp → (Hp → Prop) → Prop)
    (wk : Wk K J ds G) (hG : ∀ H', XD w D Hs H' → Dm O H' → G O H') (dm : Dm O Hs) (wok : WOk w Hs) {acc0 : List V} {as0 : List PV.D} (h0 : Hs D = some (.lst acc0)) (r0 : Rps K (hid O Hs) acc0 as0) (f0 : F ds as0)
    (fin : ∀ H' acc as, XD w D Hs H' → Dm O H' → H' D = some (.lst acc) → Rps K (hid O H') acc as → F [] as → Fin H')
    (body : ∀ d rest H' acc as x, XD w D Hs H' → Dm O H' → H' D = some (.lst acc) → Rps K (hid O H') acc as → Rp K (hid O H') x d → F (d :: rest) as → ∀ Nx : Hp → Prop, (∀ H'' acc' as', XD w D Hs H'' → H'' D = some (.lst acc') → Rps K (hid O H'') acc' as' → F rest as' → Nx H'') → B x H' Nx) :
    ∃ W : Nat → Nat → Hp → Prop, (∃ m, W 0 m Hs) ∧ ∀ i m H, W i m H → (J.stop i H ∧ Fin H) ∨ (J.go i H ∧ ∃ Nx : Hp → Prop, (∀ H', Nx H' → ∃ m', m' < m ∧ W (i + 1) m' H') ∧ ∀ x H', J.yld i H x H' → B x H' Nx) := by
  have dmX : ∀ {H' : Hp} {acc : List V}, XD w D Hs H' → H' D = some (.lst acc) → Dm O H' := fun {H' acc} x hd p hp hn => by
    by_cases e : p = D
    · subst e
      rw [hd] at hn
      cases hn
    · by_cases hw : w.is p
      · obtain ⟨kvs, z⟩ := is_dK x.2 hw
        rw [z] at hn
        cases hn
      · cases q : Hs p with
        | none => exact dm p hp q
        | some o => rw [x.1 p o hw e q] at hn; cases hn
  refine ⟨fun i m H' => i + m = ds.length ∧ ∃ acc as, XD w D Hs H' ∧ H' D = some (.lst acc) ∧ Rps K (hid O H') acc as ∧ F (ds.drop i) as, ⟨ds.length, by omega, acc0, as0, ⟨fun _ _ _ _ q => q, wok⟩, h0, r0, f0⟩, fun i m H' h => ?_⟩
  obtain ⟨hm, acc, as, x, hd, r, f⟩ := h
  have dm' := dmX x hd
  obtain ⟨wk1, wk2⟩ := wk O H' (hG H' x dm') i
  by_cases hi : i < ds.length
  · have hget : ds[i]? = some ds[i] := List.getElem?_eq_getElem hi
    obtain ⟨go, yl⟩ := wk1 _ hget
    refine .inr ⟨go, fun H'' => ∃ acc as, XD w D Hs H'' ∧ H'' D = some (.lst acc) ∧ Rps K (hid O H'') acc as ∧ F (ds.drop (i + 1)) as, fun H'' h => ⟨m - 1, by omega, by omega, h⟩, fun v H'' hy => ?_⟩
    obtain ⟨le, rp⟩ := yl v H'' hy
    have x2 : XD w D Hs H'' := x.ext (Ext.of_le x.2 le)
    rw [List.drop_eq_getElem_cons hi] at f
    exact body _ _ H'' acc as v x2 (dmX x2 (le _ _ hd)) (le _ _ hd) (r.mono (hid_le_mono le)) rp f _ fun H3 acc' as' x3 d3 r3 f3 => ⟨acc', as', x3, d3, r3, f3⟩
  · refine .inl ⟨wk2 (by omega), ?_⟩
    rw [List.drop_eq_nil_of_le (by omega)] at f
    exact fin H' acc as x dm' hd r f

section
variable {P : Pm} {ct : Ct} {X : Cx} {k : Nat} {K : PySem.W.Frag} {O0 O : List Addr} {H0 H : Hp} {σ : L2.St} {ρ : Env}
theorem Sim.grow {w : Wp} {iw : Nat} {D : Addr} {H1 H' : Hp} (S : Sim K w iw O0 H0 O H1 σ ρ) (hD : H1 D = none) (e : Ext w H1 H') (hD' : H' D ≠ none) : Sim K w iw O0 H0 (D :: O) H' σ ρ := by
  have le : Le (hid O H1) (hid (D :: O) H') := fun a o h => by
    have h1 := hid_out h
    have h2 := hid_le O H1 _ _ h
    have ne : a ≠ D := fun z => by subst z; rw [hD] at h2; cases h2
    exact hid_in (by simp [ne, h1]) (e.1 a o (fun z => h1 (S.wo a z)) h2)
  refine ⟨S.len, fun i s h => ?_, S.inj, fun p hp => ?_, S.dom0, fun p hp => List.mem_cons_of_mem _ (S.sub p hp), fun p hp => ?_, S.ent.trans e, S.w0, S.wO, S.wS, S.own⟩
  · have q := S.slot i s h
    cases s with
    | no => trivial
    | fx v => exact q
    | sh d =>
      obtain ⟨v, e1, r⟩ := q
      exact ⟨v, e1, r.mono le⟩
    | ow d =>
      obtain ⟨p, e1, hp, ds, vs, e2, hH, r⟩ := q
      refine ⟨p, e1, List.mem_cons_of_mem _ hp, ds, vs, e2, e.1 p _ (fun hw => ?_) hH, r.mono le⟩
      obtain ⟨kvs, z⟩ := is_dK S.wok hw
      rw [z] at hH
      cases hH
  · rcases List.mem_cons.mp hp with rfl | hp
    · exact hD'
    · exact (S.ext e).dom p hp
  · rcases List.mem_cons.mp hp with rfl | hp
    · cases q : H0 p with
      | none => exact .inr rfl
      | some o =>
        by_cases hw : w.is p
        · exact .inl (S.wO p hw)
        · rw [S.ent.1 p o hw q] at hD
          cases hD
    · exact S.fresh p hp
/-- the heap goes on, the object at D (no slot's) changes -/
theorem Sim.xd {w : Wp} {iw : Nat} {D : Addr} {Hs H' : Hp} (S : Sim K w iw O0 H0 O Hs σ ρ) (hDO : D ∈ O) (hn : ¬ SlOw σ ρ D) (x : XD w D Hs H') (hD' : H' D ≠ none) (h0 : H0 D = none) : Sim K w iw O0 H0 O H' σ ρ := by
  have le : Le (hid O Hs) (hid O H') := fun a o h => by
    have h1 := hid_out h
    exact hid_in h1 (x.1 a o (fun z => h1 (S.wo a z)) (fun z => h1 (by rw [z]; exact hDO)) (hid_le O Hs _ _ h))
  refine ⟨S.len, fun i s h => ?_, S.inj, fun p hp => ?_, S.dom0, S.sub, S.fresh, ⟨fun a o h1 h2 => ?_, x.2⟩, S.w0, S.wO, S.wS, S.own⟩
  · have q := S.slot i s h
    cases s with
    | no => trivial
    | fx v => exact q
    | sh d =>
      obtain ⟨v, e1, r⟩ := q
      exact ⟨v, e1, r.mono le⟩
    | ow d =>
      obtain ⟨p, e1, hp, ds, vs, e2, hH, r⟩ := q
      refine ⟨p, e1, hp, ds, vs, e2, x.1 p _ (fun hw => ?_) (fun z => hn ⟨i, d, h, by rw [← z]; exact join_some e1⟩) hH, r.mono le⟩
      obtain ⟨kvs, z⟩ := is_dK S.wok hw
      rw [z] at hH
      cases hH
  · intro hz
    by_cases e : p = D
    · subst e
      exact hD' hz
    · by_cases hw : w.is p
      · obtain ⟨kvs, z⟩ := is_dK x.2 hw
        rw [z] at hz
        cases hz
      · cases q : Hs p with
        | none => exact S.dom p hp q
        | some o => rw [x.1 p o hw e q] at hz; cases hz
  · exact x.1 a o h1 (fun z => by rw [z, h0] at h2; cases h2) (S.ent.1 a o h1 h2)
mutual
theorem ow_bind {i : Nat} {z : D} : ∀ {p : Pat} {d : D} {ρ ρ' : Env}, bindP p d ρ = some ρ' → ρ'[i]? = some (.ow z) → ρ[i]? = some (.ow z)
  | .nm j, d, ρ, ρ', e, h => by
    unfold bindP at e
    cases e
    by_cases hj : j = i
    · subst hj
      by_cases hl : j < ρ.length
      · rw [List.getElem?_set_self hl] at h
        cases h
      · rw [List.getElem?_eq_none (by simpa using hl)] at h
        cases h
    · rw [List.getElem?_set_ne hj] at h
      exact h
  | .tp ps, d, ρ, ρ', e, h => by
    cases d <;> unfold bindP at e <;> first | cases e | exact ow_binds e h
theorem ow_binds {i : Nat} {z : D} : ∀ {ps : Pats} {ds : List D} {ρ ρ' : Env}, bindPs ps ds ρ = some ρ' → ρ'[i]? = some (.ow z) → ρ[i]? = some (.ow z)
  | .nil, ds, ρ, ρ', e, h => by
    cases ds <;> unfold bindPs at e <;> cases e
    exact h
  | .cons p ps, ds, ρ, ρ', e, h => by
    cases ds with
    | nil => unfold bindPs at e; cases e
    | cons d ds =>
      unfold bindPs at e
      cases q : bindP p d ρ with
      | none => rw [q] at e; cases e
      | some ρ1 => rw [q] at e; exact ow_bind q (ow_binds e h)
end
theorem slOw_bind {p : Pat} {d : D} {vs : List Nat} {ρ ρ1 : Env} {σ σ2 : L2.St} (hb : bindP p d (wip vs ρ) = some ρ1) (hw : wipe σ2 vs = wipe (wipe σ vs) vs) {q : Addr} (h : SlOw σ2 ρ1 q) : SlOw σ ρ q := by
  obtain ⟨i, z, h1, h2⟩ := h
  have h3 := ow_bind hb h1
  rw [wip_get] at h3
  have hi : i ∉ vs := fun hm => by
    cases e : ρ[i]? with
    | none => rw [e] at h3; cases h3
    | some t => rw [e] at h3; simp [hm] at h3
  refine ⟨i, z, ?_, ?_⟩
  · cases e : ρ[i]? with
    | none => rw [e] at h3; cases h3
    | some t => rw [e] at h3; simpa [hi] using h3
  · have e := congrArg (fun l : L2.St => l[i]?) hw
    simp only [wipe_get, if_neg hi] at e
    rw [← e]
    exact h2
/-- a slot's own list stays -/
theorem slOw_keep {w : Wp} {iw : Nat} {D : Addr} {H1 H' : Hp} (S : Sim K w iw O0 H0 O H1 σ ρ) {p : Addr} (h : SlOw σ ρ p) (hn : p ≠ D) (x : ∀ a o, ¬ w.is a → a ≠ D → H1 a = some o → H' a = some o) : H' p = H1 p := by
  obtain ⟨i, z, h1, h2⟩ := h
  obtain ⟨q, e1, hp, ds, vs, e2, hH, r⟩ := S.slot i _ h1
  rw [h2] at e1
  cases e1
  rw [hH]
  refine x p _ (fun hw => ?_) hn hH
  obtain ⟨kvs, z⟩ := is_dK S.wok hw
  rw [z] at hH
  cases hH
theorem slOw_some {w : Wp} {iw : Nat} {H1 : Hp} (S : Sim K w iw O0 H0 O H1 σ ρ) {p : Addr} (h : SlOw σ ρ p) : H1 p ≠ none := by
  obtain ⟨i, z, h1, h2⟩ := h
  obtain ⟨q, e1, hp, ds, vs, e2, hH, r⟩ := S.slot i _ h1
  rw [h2] at e1
  cases e1
  rw [hH]
  simp
theorem wD {w : Wp} {H1 : Hp} {D : Addr} (wk : WOk w H1) (h : H1 D = none) : ∀ t, w = some t → D ≠ t.1 ∧ D ≠ t.2.1 := fun t ht => by
  subst ht
  obtain ⟨pw, pd, ns⟩ := t
  obtain ⟨j, h0, h1, h2⟩ := wk
  exact ⟨fun z => (show False from by rw [z, h1] at h; cases h), fun z => (show False from by rw [z, h2] at h; cases h)⟩

/-- one turn: target, test, element -/
abbrev gStep (P : Pm) (p : Pat) (t elt : E) (ρb : Env) (d : D) : W (Option D) := wM.bind (wM.lift (bindP p d ρb)) fun ρ1 => wM.bind (PV.ev wM P.C P.F P.G t ρ1) fun x => wM.bind (wM.lift (bool? x)) fun b => if b = true then wM.bind (PV.ev wM P.C P.F P.G elt ρ1) fun y => wM.pure (some y) else wM.pure none
theorem body_of {p : Pat} {t elt : E} {vs : List Nat} {H' : Hp} {x : V} {d : D} {R : Option D → Prop} {D : Addr} {Nx : Hp → Prop} (S : Sim K P.w P.iw O0 H0 O H' (wipe σ vs) ρ) (rp : Rp K (hid O H') x d) (hc : gStep P p t elt ρ d R)
    (hns : NoOw (esc true t ++ esc false elt) ρ) (hw : ∀ i ∈ p.ns, i ∈ vs) (n0 : ∀ H3, Ext P.w H' H3 → R none → Nx H3)
    (n1 : ∀ H4 v y, Ext P.w H' H4 → Rp K (hid O H4) v y → R (some y) → ∃ acc, H4 D = some (.lst acc) ∧ acc.length < sizeLine ∧ Nx (upd H4 D (.lst (acc ++ [v])))) :
    tG P K p x (wipe σ vs) H' fun σ2 H2 => wipe σ2 vs = wipe σ vs ∧ tT P K t σ2 H2 fun b H3 => if b = true then tE P K elt σ2 H3 fun y H4 => ∃ acc, H4 D = some (.lst acc) ∧ acc.length < sizeLine ∧ Nx (upd H4 D (.lst (acc ++ [y]))) else Nx H3 := by
  obtain ⟨ρ1, hb, hc⟩ := wbind hc
  refine ⟨O0, H0, O, ρ, d, ρ1, S, rp, hb, fun σ2 S2 hw2 => ⟨(hw2 vs hw).trans wipe_idem, O0, H0, O, ρ1, _, S2, noOw_bind hb (noOw_l hns), hc, fun d2 H3 hd e3 => ?_⟩⟩
  obtain ⟨b, hb2, hd⟩ := wbind hd
  refine ⟨b, hb2, ?_⟩
  cases b with
  | false => exact n0 H3 e3 hd
  | true => exact ⟨O0, H0, O, ρ1, _, S2.ext e3, noOw_bind hb (noOw_r hns), hd, fun y v H4 hy e4 res => n1 H4 v y (e3.trans e4) res.1 hy⟩
def ol (o : Option D) (ys : List D) : List D := match o with
  | some y => y :: ys
  | none => ys
theorem compL_cons {g : D → W (Option D)} {d : D} {rest : List D} {R : List D → Prop} (h : compL wM g (d :: rest) R) : g d fun o => compL wM g rest fun ys => R (ol o ys) := by
  unfold compL at h
  have e : (fun (o : Option D) (ys : List D) => wM.pure (match o with
    | some y => y :: ys
    | none => ys)) = fun o ys => wM.pure (ol o ys) := by
    funext o ys
    cases o <;> rfl
  have h' : wM.bind (g d) (fun o => wM.bind (compL wM g rest) ((fun (o : Option D) (ys : List D) => wM.pure (match o with
    | some y => y :: ys
    | none => ys)) o)) R := h
  rw [e] at h'
  exact h'
theorem comp_q {own : List Nat} {p : Pat} {s : Src} {t elt : E} (hp : ∀ i ∈ p.ns, i ∈ own) (hiw : P.iw ∉ own) {σ : L2.St} {H : Hp} {Q : VK} (q : tE P X.K (.comp own p s t elt) σ H Q) : tLc (tI P X.K false s) (tG P X.K p) (tT P X.K t) (tE P X.K elt) own σ H Q := by
  obtain ⟨O0, H0, O, ρ, R, S, es, ev, q⟩ := q
  have es : NoOw (escS s ++ (esc true t ++ esc false elt)) ρ := by simpa [esc] using es
  have ev : P.evS s ρ fun xs => compL wM (gStep P p t elt (PV.wip own ρ)) xs fun ys => R (.list ys) := by unfold Pm.ev PV.ev at ev; exact ev
  refine ⟨O0, H0, O, ρ, _, S, noOw_l es, ev, fun ds J H1 hd hl e1 wk D hD => ?_⟩
  have S1 := S.ext e1
  have hDO : D ∉ O := fun hm => S1.dom D hm hD
  have hu : (upd H1 D (.lst [])) D = some (.lst []) := by simp [upd]
  have xx : ∀ {H'}, XD P.w D (upd H1 D (.lst [])) H' → Ext P.w H1 H' := fun {H'} x => ⟨fun a o h1 h2 => by
    have ne : a ≠ D := fun z => by rw [z, hD] at h2; cases h2
    exact x.1 a o h1 ne (by rw [upd_ne ne]; exact h2), x.2⟩
  have dm0 : Dm (D :: O) (upd H1 D (.lst [])) := fun a ha hn => by
    by_cases e : a = D
    · subst e; rw [hu] at hn; cases hn
    · rw [upd_ne e] at hn
      rcases List.mem_cons.mp ha with z | z
      · exact e z
      · exact S1.dom a z hn
  refine lc_loop (K := X.K) (w := P.w) (O := D :: O) (G := Gk false σ ρ O H1) (fun rest as => as.length + rest.length ≤ LINE ∧ compL wM (gStep P p t elt (PV.wip own ρ)) rest fun ys => R (.list (as ++ ys))) (fun H' => Q (.ref D) H')
    (fun x H' Nx => tG P X.K p x (wipe σ own) H' fun σ2 H2 => wipe σ2 own = wipe σ own ∧ tT P X.K t σ2 H2 fun b H3 => if b = true then tE P X.K elt σ2 H3 fun y H4 => ∃ acc, H4 D = some (.lst acc) ∧ acc.length < sizeLine ∧ Nx (upd H4 D (.lst (acc ++ [y]))) else Nx H3)
    wk (fun H' x dm => ⟨dm, fun a o h => ?_, fun _ p hp => ?_⟩) dm0 ((Ext.new S1.wok hD).2) hu .nil ⟨by simpa using hl, hd⟩ (fun H' acc as x dm hd' r f => ?_) (fun d rest H' acc as x xd dm hd' r rp f Nx nx => ?_)
  · have h1 := hid_out h
    have h2 := hid_le O H1 _ _ h
    have ne : a ≠ D := fun z => by rw [z, hD] at h2; cases h2
    exact hid_in (by simp [ne, h1]) ((xx x).1 a o (fun z => h1 (S1.wo a z)) h2)
  · exact slOw_keep (D := D) S1 hp (fun z => slOw_some S1 hp (by rw [z]; exact hD)) fun a o h1 h2 h3 => (xx x).1 a o h1 h3
  · have hR : R (.list (as ++ [])) := f.2
    rw [List.append_nil] at hR
    refine q _ _ _ hR (e1.trans (xx x)) ⟨.lst (hid_in hDO hd') (r.mono (hid_sub fun a ha => List.mem_cons_of_mem _ ha)), fun _ _ => ?_⟩
    exact FrP.back (H1 := H1) ⟨D, acc, as, rfl, rfl, hD, hd', r⟩ e1
  · obtain ⟨fl, fc⟩ := f
    have SD : Sim X.K P.w P.iw O0 H0 (D :: O) H' (wipe σ own) (PV.wip own ρ) := (S1.grow hD (xx xd) (by rw [hd']; simp)).wip hiw
    have hwD := wD S1.wok hD
    refine body_of (R := fun o => compL wM (gStep P p t elt (PV.wip own ρ)) rest fun ys => R (.list (as ++ ol o ys))) SD rp (compL_cons fc) (noOw_wip (noOw_r es)) hp (fun H3 e3 h => ?_) (fun H4 v y e4 ry h => ?_)
    · refine nx H3 acc as (xd.ext e3) (e3.1 D _ (fun z => ?_) hd') (r.mono (e3.hid SD.wo)) ⟨by simp only [List.length_cons] at fl; omega, h⟩
      obtain ⟨kvs, q⟩ := is_dK xd.2 z
      rw [hd'] at q
      cases q
    · have h4 : H4 D = some (.lst acc) := e4.1 D _ (fun z => by
        obtain ⟨kvs, q⟩ := is_dK xd.2 z
        rw [hd'] at q
        cases q) hd'
      have hal := r.length
      refine ⟨acc, h4, by rw [← line_eq, hal]; simp only [List.length_cons] at fl; omega, nx _ (acc ++ [v]) (as ++ [y]) ((xd.ext e4).upd hwD) (by simp [upd]) ?_ ⟨by simp only [List.length_cons, List.length_append, List.length_nil] at fl ⊢; omega, ?_⟩⟩
      · rw [hid_upd (by simp)]
        exact (r.mono (e4.hid SD.wo)).append (.cons ry .nil)
      · have e : (fun ys => R (.list (as ++ ol (some y) ys))) = fun ys => R (.list ((as ++ [y]) ++ ys)) := by
          funext ys
          simp [ol]
        rw [← e]
        exact h
theorem snd_comp (g : Gd P ct X k) {own : List Nat} {p : Pat} {s : Src} {t elt : E} {el tg it : Expr} {ifs : List Expr} {scope : Scope} {pos : Pos} (hb : blkB ct scope own = true) (hp : ∀ i ∈ p.ns, i ∈ own) (hi : PI X tg it (tI P X.K false s)) (hs : ∀ x, foldedSetIterable it X.env x = pure x)
    (hg : ∀ X, Gd P (ct.blk scope) X k → PG X tg (tG P X.K p)) (ht : ∀ X, Gd P (ct.blk scope) X k → PTs X ifs (tT P X.K t)) (he : ∀ X, Gd P (ct.blk scope) X k → PE X el (tE P X.K elt)) :
    PE X (.ListComp el [⟨tg, it, ifs, 0⟩] scope pos) (tE P X.K (.comp own p s t elt)) := by
  obtain ⟨ok, hown, hiw⟩ := blk_ok g hb
  refine (pe_lc (te := tE P X.K elt) (tt := tT P X.K t) (g := tG P X.K p) g.calm (by rw [g.hN]; exact g.nd) hi ok (fun s H C cl fp => hg _ (g.blk scope s H C cl fp)) (fun s H C cl fp => ht _ (g.blk scope s H C cl fp)) (fun s H C cl fp => he _ (g.blk scope s H C cl fp)) hs).imp fun σ H Q q => ?_
  rw [hown]
  exact comp_q hp hiw q
/-- name = [..] on one line -/
theorem set_comp (g : Gd P ct X k) {i : Nat} {y : Str} {own : List Nat} {p : Pat} {s : Src} {t elt : E} {el tg it : Expr} {ifs : List Expr} {scope : Scope} {pos py spos : Pos} (hy : X.N[i]? = some y) (hyl : X.env.scope.names.lookup y = some .local) (hsw : swapsWith (.ListComp el [⟨tg, it, ifs, 0⟩] scope pos) (some (.Name y py)) spos.line X.env = pure true)
    (hb : blkB ct scope own = true) (hp : ∀ i ∈ p.ns, i ∈ own) (hi : PI X tg it (tI P X.K false s)) (hs : ∀ x, foldedSetIterable it X.env x = pure x)
    (hg : ∀ X, Gd P (ct.blk scope) X k → PG X tg (tG P X.K p)) (ht : ∀ X, Gd P (ct.blk scope) X k → PTs X ifs (tT P X.K t)) (he : ∀ X, Gd P (ct.blk scope) X k → PE X el (tE P X.K elt)) :
    PS X (.Assign [.Name y py] (.ListComp el [⟨tg, it, ifs, 0⟩] scope pos) spos) (tAsg (tE P X.K (.comp own p s t elt)) (gName i)) := by
  obtain ⟨ok, hown, hiw⟩ := blk_ok g hb
  have h := ps_setLc (te := tE P X.K elt) (tt := tT P X.K t) (g := tG P X.K p) g.calm (by rw [g.hN]; exact g.nd) hy hyl hsw hi ok (fun s H C cl fp => hg _ (g.blk scope s H C cl fp)) (fun s H C cl fp => ht _ (g.blk scope s H C cl fp)) (fun s H C cl fp => he _ (g.blk scope s H C cl fp)) hs
  rw [hown] at h
  exact ⟨fun pins s σ H D I q => h.run pins s σ H D I (comp_q hp hiw q)⟩
end
end PV

set_option maxHeartbeats 4000000
/-! PV: comprehensions of two clauses; all expressions. -/
namespace PV
open PySem L2 RZ

section
variable {P : Pm} {ct : Ct} {X : Cx} {k : Nat}
abbrev gSrc (P : Pm) (p : Pat) (t : E) (s1 : Src) (own1 : List Nat) (ρb : Env) (d : D) : W (Option (Env × List D)) := wM.bind (wM.lift (bindP p d ρb)) fun ρ1 => wM.bind (PV.ev wM P.C P.F P.G t ρ1) fun x => wM.bind (wM.lift (bool? x)) fun b => if b = true then wM.bind (PV.evS wM P.C P.F P.G s1 ρ1) fun zs => wM.pure (some (PV.wip own1 ρ1, zs)) else wM.pure none
abbrev gIn (P : Pm) (p1 : Pat) (t1 elt : E) (ρ1 : Env) (d : D) : W (Option D) := gStep P p1 t1 elt ρ1 d
theorem compLL_cons {src : D → W (Option (Env × List D))} {gg : Env → D → W (Option D)} {acc rest : List D} {d : D} {R : List D → Prop} (h : compLL wM src gg acc (d :: rest) R) : src d fun o => match o with
    | none => compLL wM src gg acc rest R
    | some (ρ, zs) => acc.length + zs.length ≤ LINE ∧ compL wM (gg ρ) zs fun ys => compLL wM src gg (acc ++ ys) rest R := by
  unfold compLL at h
  have e : (fun (o : Option (Env × List D)) => (match o with
      | none => compLL wM src gg acc rest
      | some (ρ, zs) => if acc.length + zs.length ≤ LINE then wM.bind (compL wM (gg ρ) zs) fun ys => compLL wM src gg (acc ++ ys) rest else wM.fail) R) =
      fun o => match o with
    | none => compLL wM src gg acc rest R
    | some (ρ, zs) => acc.length + zs.length ≤ LINE ∧ compL wM (gg ρ) zs fun ys => compLL wM src gg (acc ++ ys) rest R := by
    funext o
    cases o with
    | none => rfl
    | some q =>
      obtain ⟨ρ, zs⟩ := q
      show (if acc.length + zs.length ≤ LINE then wM.bind (compL wM (gg ρ) zs) fun ys => compLL wM src gg (acc ++ ys) rest else wM.fail) R = _
      by_cases hl : acc.length + zs.length ≤ LINE
      · rw [if_pos hl]
        exact propext ⟨fun z => ⟨hl, z⟩, fun z => z.2⟩
      · rw [if_neg hl]
        exact propext ⟨fun z => False.elim z, fun z => hl z.1⟩
  have h' : src d (fun o => (match o with
      | none => compLL wM src gg acc rest
      | some (ρ, zs) => if acc.length + zs.length ≤ LINE then wM.bind (compL wM (gg ρ) zs) fun ys => compLL wM src gg (acc ++ ys) rest else wM.fail) R) := h
  rw [e] at h'
  exact h'
theorem comp2_q {own own1 : List Nat} {p p1 : Pat} {s s1 : Src} {t t1 elt : E} (h1o : ∀ i ∈ own1, i ∈ own) (hp : ∀ i ∈ p.ns, i ∈ own) (hp1 : ∀ i ∈ p1.ns, i ∈ own1) (hiw : P.iw ∉ own) {σ : L2.St} {H : Hp} {Q : VK} (q : tE P X.K (.comp2 own own1 p s t p1 s1 t1 elt) σ H Q) :
    tLc2 (tI P X.K false s) (tG P X.K p) (tT P X.K t) (tI P X.K false s1) (tG P X.K p1) (tT P X.K t1) (tE P X.K elt) own own1 σ H Q := by
  obtain ⟨O0, H0, O, ρ, R, S, es, ev, q⟩ := q
  have es : NoOw (escS s ++ (esc true t ++ (escS s1 ++ (esc true t1 ++ esc false elt)))) ρ := by simpa [esc] using es
  have ev : P.evS s ρ fun xs => compLL wM (gSrc P p t s1 own1 (PV.wip own ρ)) (gIn P p1 t1 elt) [] xs fun ys => R (.list ys) := by unfold Pm.ev PV.ev at ev; exact ev
  refine ⟨O0, H0, O, ρ, _, S, noOw_l es, ev, fun ds J H1 hd hl e1 wk D hD => ?_⟩
  have S1 := S.ext e1
  have hDO : D ∉ O := fun hm => S1.dom D hm hD
  have hu : (upd H1 D (.lst [])) D = some (.lst []) := by simp [upd]
  have xx : ∀ {H'}, XD P.w D (upd H1 D (.lst [])) H' → Ext P.w H1 H' := fun {H'} x => ⟨fun a o h1 h2 => by
    have ne : a ≠ D := fun z => by rw [z, hD] at h2; cases h2
    exact x.1 a o h1 ne (by rw [upd_ne ne]; exact h2), x.2⟩
  have dm0 : Dm (D :: O) (upd H1 D (.lst [])) := fun a ha hn => by
    by_cases e : a = D
    · subst e; rw [hu] at hn; cases hn
    · rw [upd_ne e] at hn
      rcases List.mem_cons.mp ha with z | z
      · exact e z
      · exact S1.dom a z hn
  have hwD := wD S1.wok hD
  have nwD : ∀ {H' : Hp} {acc : List V}, WOk P.w H' → H' D = some (.lst acc) → ¬ P.w.is D := fun {H' acc} wk h z => by
    obtain ⟨kvs, q⟩ := is_dK wk z
    rw [h] at q
    cases q
  refine lc_loop (K := X.K) (w := P.w) (O := D :: O) (G := Gk false σ ρ O H1) (fun rest as => compLL wM (gSrc P p t s1 own1 (PV.wip own ρ)) (gIn P p1 t1 elt) as rest fun ys => R (.list ys)) (fun H' => Q (.ref D) H')
    (fun x H' Nx => tG P X.K p x (wipe σ own) H' fun σ2 H2 => wipe σ2 own = wipe σ own ∧ tT P X.K t σ2 H2 fun b H3 =>
      if b = true then tI P X.K false s1 σ2 H3 fun J1 H4 => ∃ W1 : Nat → Nat → Hp → Prop, (∃ m, W1 0 m H4) ∧ ∀ j k H, W1 j k H →
        (J1.stop j H ∧ Nx H) ∨ (J1.go j H ∧ ∃ Nx1 : Hp → Prop, (∀ H', Nx1 H' → ∃ k', k' < k ∧ W1 (j + 1) k' H') ∧ ∀ x H', J1.yld j H x H' → tG P X.K p1 x (wipe σ2 own1) H' fun σ3 H5 => wipe σ3 own1 = wipe σ2 own1 ∧ tT P X.K t1 σ3 H5 fun b H6 =>
          if b = true then tE P X.K elt σ3 H6 fun y H7 => ∃ acc, H7 D = some (.lst acc) ∧ acc.length < sizeLine ∧ Nx1 (upd H7 D (.lst (acc ++ [y]))) else Nx1 H6)
      else Nx H3)
    wk (fun H' x dm => ⟨dm, fun a o h => ?_, fun _ p hp => ?_⟩) dm0 ((Ext.new S1.wok hD).2) hu .nil hd (fun H' acc as x dm hd' r f => ?_) (fun d rest H' acc as x xd dm hd' r rp f Nx nx => ?_)
  · have h1 := hid_out h
    have h2 := hid_le O H1 _ _ h
    have ne : a ≠ D := fun z => by rw [z, hD] at h2; cases h2
    exact hid_in (by simp [ne, h1]) ((xx x).1 a o (fun z => h1 (S1.wo a z)) h2)
  · exact slOw_keep (D := D) S1 hp (fun z => slOw_some S1 hp (by rw [z]; exact hD)) fun a o h1 h2 h3 => (xx x).1 a o h1 h3
  · have hR : R (.list as) := by unfold compLL at f; exact f
    refine q _ _ _ hR (e1.trans (xx x)) ⟨.lst (hid_in hDO hd') (r.mono (hid_sub fun a ha => List.mem_cons_of_mem _ ha)), fun _ _ => ?_⟩
    exact FrP.back (H1 := H1) ⟨D, acc, as, rfl, rfl, hD, hd', r⟩ e1
  · have SD0 := S1.grow hD (xx xd) (by rw [hd']; simp)
    have SD : Sim X.K P.w P.iw O0 H0 (D :: O) H' (wipe σ own) (PV.wip own ρ) := SD0.wip hiw
    have h0D : H0 D = none := by
      cases z : H0 D with
      | none => rfl
      | some o =>
        by_cases hw : P.w.is D
        · exact absurd hw (nwD xd.2 hd')
        · have z2 := S1.ent.1 D o hw z
          rw [hD] at z2
          cases z2
    have f := compLL_cons f
    obtain ⟨ρ1, hbd, f⟩ := wbind (f := fun ρ1 => wM.bind (PV.ev wM P.C P.F P.G t ρ1) fun x => wM.bind (wM.lift (bool? x)) fun b => if b = true then wM.bind (PV.evS wM P.C P.F P.G s1 ρ1) fun zs => wM.pure (some (PV.wip own1 ρ1, zs)) else wM.pure none) f
    have esb := noOw_bind hbd (noOw_wip (noOw_r es))
    refine ⟨O0, H0, D :: O, PV.wip own ρ, d, ρ1, SD, rp, hbd, fun σ2 S2 hw2 => ⟨(hw2 own hp).trans wipe_idem, O0, H0, D :: O, ρ1, _, S2, noOw_l esb, f, fun d2 H3 hd2 e3 => ?_⟩⟩
    obtain ⟨b, hb2, hd2⟩ := wbind hd2
    refine ⟨b, hb2, ?_⟩
    have h3 : H3 D = some (.lst acc) := e3.1 D _ (nwD xd.2 hd') hd'
    cases b with
    | false => exact nx H3 acc as (xd.ext e3) h3 (r.mono (e3.hid SD.wo)) hd2
    | true =>
      refine ⟨O0, H0, D :: O, ρ1, _, S2.ext e3, noOw_l (noOw_r esb), hd2, fun zs J1 H4 hz hzl e4 wk1 => ?_⟩
      obtain ⟨hlen, hz⟩ := hz
      have S4 := (S2.ext e3).ext e4
      have h4 : H4 D = some (.lst acc) := e4.1 D _ (nwD e3.2 h3) h3
      have r4 := (r.mono (e3.hid SD.wo)).mono (e4.hid SD.wo)
      have xd4 := (xd.ext e3).ext e4
      have hnS : ¬ SlOw σ2 ρ1 D := fun z => slOw_some S1 (slOw_bind hbd (hw2 own hp) z) hD
      have tr : ∀ {H'}, XD P.w D H4 H' → XD P.w D (upd H1 D (.lst [])) H' := fun {H'} y => ⟨fun a o k1 k2 k3 => y.1 a o k1 k2 (xd4.1 a o k1 k2 k3), y.2⟩
      refine lc_loop (K := X.K) (w := P.w) (O := D :: O) (G := Gk false σ2 ρ1 (D :: O) H4) (fun rest1 as1 => as1.length + rest1.length ≤ LINE ∧ compL wM (gIn P p1 t1 elt (PV.wip own1 ρ1)) rest1 fun ys => compLL wM (gSrc P p t s1 own1 (PV.wip own ρ)) (gIn P p1 t1 elt) (as1 ++ ys) rest fun ys => R (.list ys)) Nx
        (fun x H' Nx1 => tG P X.K p1 x (wipe σ2 own1) H' fun σ3 H5 => wipe σ3 own1 = wipe σ2 own1 ∧ tT P X.K t1 σ3 H5 fun b H6 =>
          if b = true then tE P X.K elt σ3 H6 fun y H7 => ∃ acc, H7 D = some (.lst acc) ∧ acc.length < sizeLine ∧ Nx1 (upd H7 D (.lst (acc ++ [y]))) else Nx1 H6)
        wk1 (fun H' x dm => ⟨dm, fun a o h => ?_, fun _ p hp => ?_⟩) S4.dom S4.wok h4 r4 ⟨hlen, hz⟩ (fun H' acc as x dm hd' r f => ?_) (fun d rest1 H' acc as x xd1 dm hd' r rp f Nx1 nx1 => ?_)
      · have h1 := hid_out h
        exact hid_in h1 (x.1 a o (fun z => h1 (S4.wo a z)) (fun z => h1 (by rw [z]; simp)) (hid_le _ _ _ _ h))
      · exact slOw_keep (D := D) S4 hp (fun z => hnS (by rw [← z]; exact hp)) x.1
      · have hR := f.2
        have hR : compLL wM (gSrc P p t s1 own1 (PV.wip own ρ)) (gIn P p1 t1 elt) (as ++ []) rest fun ys => R (.list ys) := hR
        rw [List.append_nil] at hR
        exact nx H' acc as (tr x) hd' r hR
      · obtain ⟨fl, fc⟩ := f
        have SI : Sim X.K P.w P.iw O0 H0 (D :: O) H' (wipe σ2 own1) (PV.wip own1 ρ1) := (S4.xd (by simp) hnS xd1 (by rw [hd']; simp) h0D).wip fun z => hiw (h1o _ z)
        refine body_of (R := fun o => compL wM (gIn P p1 t1 elt (PV.wip own1 ρ1)) rest1 fun ys => compLL wM (gSrc P p t s1 own1 (PV.wip own ρ)) (gIn P p1 t1 elt) (as ++ ol o ys) rest fun ys => R (.list ys)) SI rp (compL_cons fc) (noOw_wip (noOw_r (noOw_r esb))) hp1 (fun H3 e3 h => ?_) (fun H4 v y e4 ry h => ?_)
        · exact nx1 H3 acc as (xd1.ext e3) (e3.1 D _ (nwD xd1.2 hd') hd') (r.mono (e3.hid SI.wo)) ⟨by simp only [List.length_cons] at fl; omega, h⟩
        · have h4' : H4 D = some (.lst acc) := e4.1 D _ (nwD xd1.2 hd') hd'
          have hal := r.length
          refine ⟨acc, h4', by rw [← line_eq, hal]; simp only [List.length_cons] at fl; omega, nx1 _ (acc ++ [v]) (as ++ [y]) ((xd1.ext e4).upd hwD) (by simp [upd]) ?_ ⟨by simp only [List.length_cons, List.length_append, List.length_nil] at fl ⊢; omega, ?_⟩⟩
          · rw [hid_upd (by simp)]
            exact (r.mono (e4.hid SI.wo)).append (.cons ry .nil)
          · have e : (fun ys => compLL wM (gSrc P p t s1 own1 (PV.wip own ρ)) (gIn P p1 t1 elt) (as ++ ol (some y) ys) rest fun ys => R (.list ys)) = fun ys => compLL wM (gSrc P p t s1 own1 (PV.wip own ρ)) (gIn P p1 t1 elt) ((as ++ [y]) ++ ys) rest fun ys => R (.list ys) := by
              funext ys
              simp [ol]
            rw [← e]
            exact h
theorem snd_comp2 (g : Gd P ct X k) {own own1 : List Nat} {p p1 : Pat} {s s1 : Src} {t t1 elt : E} {el tg it tg1 it1 : Expr} {ifs ifs1 : List Expr} {scope : Scope} {pos : Pos} (hb : blkB ct scope own = true) (h1o : ∀ i ∈ own1, i ∈ own) (hp : ∀ i ∈ p.ns, i ∈ own) (hp1 : ∀ i ∈ p1.ns, i ∈ own1)
    (hi : PI X tg it (tI P X.K false s)) (hs : ∀ x, foldedSetIterable it X.env x = pure x) (hs1 : ∀ env x, foldedSetIterable it1 env x = pure x)
    (hg : ∀ X, Gd P (ct.blk scope) X k → PG X tg (tG P X.K p)) (ht : ∀ X, Gd P (ct.blk scope) X k → PTs X ifs (tT P X.K t)) (hi1 : ∀ X, Gd P (ct.blk scope) X k → PI X tg1 it1 (tI P X.K false s1))
    (hg1 : ∀ X, Gd P (ct.blk scope) X k → PG X tg1 (tG P X.K p1)) (ht1 : ∀ X, Gd P (ct.blk scope) X k → PTs X ifs1 (tT P X.K t1)) (he : ∀ X, Gd P (ct.blk scope) X k → PE X el (tE P X.K elt)) :
    PE X (.ListComp el [⟨tg, it, ifs, 0⟩, ⟨tg1, it1, ifs1, 0⟩] scope pos) (tE P X.K (.comp2 own own1 p s t p1 s1 t1 elt)) := by
  obtain ⟨ok, hown, hiw⟩ := blk_ok g hb
  refine (pe_lc2 (vs1 := own1) (te := tE P X.K elt) (tt := tT P X.K t) (g := tG P X.K p) (tt1 := tT P X.K t1) (g1 := tG P X.K p1) (wi1 := tI P X.K false s1) g.calm (by rw [g.hN]; exact g.nd) hi ok (fun i hi => by rw [hown]; exact h1o i hi) (fun s H C cl fp => hg _ (g.blk scope s H C cl fp))
    (fun s H C cl fp => ht _ (g.blk scope s H C cl fp)) (fun s H C cl fp => hi1 _ (g.blk scope s H C cl fp)) (fun s H C cl fp => hg1 _ (g.blk scope s H C cl fp)) (fun s H C cl fp => ht1 _ (g.blk scope s H C cl fp)) (fun s H C cl fp => he _ (g.blk scope s H C cl fp)) hs hs1).imp fun σ H Q q => ?_
  rw [hown]
  exact comp2_q h1o hp hp1 hiw q
theorem set_comp2 (g : Gd P ct X k) {i : Nat} {y : Str} {own own1 : List Nat} {p p1 : Pat} {s s1 : Src} {t t1 elt : E} {el tg it tg1 it1 : Expr} {ifs ifs1 : List Expr} {scope : Scope} {pos py spos : Pos} (hy : X.N[i]? = some y) (hyl : X.env.scope.names.lookup y = some .local)
    (hsw : swapsWith (.ListComp el [⟨tg, it, ifs, 0⟩, ⟨tg1, it1, ifs1, 0⟩] scope pos) (some (.Name y py)) spos.line X.env = pure true) (hb : blkB ct scope own = true) (h1o : ∀ i ∈ own1, i ∈ own) (hp : ∀ i ∈ p.ns, i ∈ own) (hp1 : ∀ i ∈ p1.ns, i ∈ own1)
    (hi : PI X tg it (tI P X.K false s)) (hs : ∀ x, foldedSetIterable it X.env x = pure x) (hs1 : ∀ env x, foldedSetIterable it1 env x = pure x)
    (hg : ∀ X, Gd P (ct.blk scope) X k → PG X tg (tG P X.K p)) (ht : ∀ X, Gd P (ct.blk scope) X k → PTs X ifs (tT P X.K t)) (hi1 : ∀ X, Gd P (ct.blk scope) X k → PI X tg1 it1 (tI P X.K false s1))
    (hg1 : ∀ X, Gd P (ct.blk scope) X k → PG X tg1 (tG P X.K p1)) (ht1 : ∀ X, Gd P (ct.blk scope) X k → PTs X ifs1 (tT P X.K t1)) (he : ∀ X, Gd P (ct.blk scope) X k → PE X el (tE P X.K elt)) :
    PS X (.Assign [.Name y py] (.ListComp el [⟨tg, it, ifs, 0⟩, ⟨tg1, it1, ifs1, 0⟩] scope pos) spos) (tAsg (tE P X.K (.comp2 own own1 p s t p1 s1 t1 elt)) (gName i)) := by
  obtain ⟨ok, hown, hiw⟩ := blk_ok g hb
  have h := ps_setLc2 (vs1 := own1) (te := tE P X.K elt) (tt := tT P X.K t) (g := tG P X.K p) (tt1 := tT P X.K t1) (g1 := tG P X.K p1) (wi1 := tI P X.K false s1) g.calm (by rw [g.hN]; exact g.nd) hy hyl hsw hi ok (fun i hi => by rw [hown]; exact h1o i hi) (fun s H C cl fp => hg _ (g.blk scope s H C cl fp))
    (fun s H C cl fp => ht _ (g.blk scope s H C cl fp)) (fun s H C cl fp => hi1 _ (g.blk scope s H C cl fp)) (fun s H C cl fp => hg1 _ (g.blk scope s H C cl fp)) (fun s H C cl fp => ht1 _ (g.blk scope s H C cl fp)) (fun s H C cl fp => he _ (g.blk scope s H C cl fp)) hs hs1
  rw [hown] at h
  exact ⟨fun pins s σ H D I q => h.run pins s σ H D I (comp2_q h1o hp hp1 hiw q)⟩
end
end PV

set_option maxHeartbeats 4000000
/-! PV: every expression of the checked form. -/
namespace PV
open PySem L2 RZ

theorem fsi {x : Expr} (h : notSet x = true) (env : PySem.Env) (v : Value) : foldedSetIterable x env v = pure v := by
  cases x <;> first | rfl | (simp [notSet] at h)
theorem chkT_eq {ct : Ct} {t : E} {ifs : List Expr} (h : chkT ct t ifs = true) : (t = .yes ∧ ifs = []) ∨ ∃ x, ifs = [x] ∧ chkE ct t x = true := by
  rcases ifs with _ | ⟨x, _ | ⟨y, r⟩⟩
  · cases t <;> first | exact .inl ⟨rfl, rfl⟩ | cases h
  · have h : (!isYes t && chkE ct t x) = true := h
    rw [Bool.and_eq_true] at h
    exact .inr ⟨x, rfl, h.2⟩
  · cases h
theorem chkO_eq {ct : Ct} {c : E} {o : Option Expr} (h : chkO ct c o = true) : (c = .none ∧ o = none) ∨ ∃ x, o = some x ∧ chkE ct c x = true ∧ ∀ d o, bound? c d = some o → ∃ i, d = .int i ∧ o = some i := by
  cases o with
  | none => cases c <;> first | exact .inl ⟨rfl, rfl⟩ | cases h
  | some x =>
    have h : (!isNo c && chkE ct c x) = true := h
    rw [Bool.and_eq_true] at h
    exact .inr ⟨x, rfl, h.2, fun d o z => bnd_int (by cases c <;> first | rfl | (simp [isNo] at h)) z⟩
theorem chkEs_len {ct : Ct} {env : PySem.Env} : ∀ {cs : Es} {xs : List Expr}, chkEs ct cs xs = true → cs.len = xs.length ∧ ∀ pos, (backTo pos (starEach xs env)).any (·.1) = false
  | .nil, [], _ => ⟨rfl, fun _ => rfl⟩
  | .nil, _ :: _, h => by unfold chkEs at h; cases h
  | .cons c cs, [], h => by unfold chkEs at h; cases h
  | .cons c cs, x :: xs, h => by
    unfold chkEs at h
    rw [Bool.and_eq_true, Bool.and_eq_true] at h
    obtain ⟨h1, h2, h3⟩ := h
    obtain ⟨k1, k2⟩ := chkEs_len (env := env) h3
    refine ⟨by simp [Es.len, k1], fun pos => ?_⟩
    rw [star_cons h1]
    show (false || (backTo pos (starEach xs env)).any (·.1)) = false
    rw [k2 pos]
    rfl
section
variable {P : Pm} {ct : Ct} {X : Cx} {k : Nat}
theorem both (g : Gd P ct X k) {c : E} {e : Expr} (hc : chkE ct c e = true) (h : PE X e (tE P X.K c)) (hn : notTest e = true) : PE X e (tE P X.K c) ∧ PT X e (tT P X.K c) :=
  ⟨h, pt_of_B (snd_B g hc h) (notTest_eq hn)⟩
theorem yes_ok {X : Cx} : PTs X [] (tT P X.K .yes) := ⟨fun pins s σ H Q I q => pts_nil.run pins s σ H Q I (by
  obtain ⟨O0, H0, O, ρ, R, S, es, ev, q⟩ := q
  have ev : R (.bool true) := by unfold Pm.ev PV.ev at ev; exact ev
  obtain ⟨b, hb, q⟩ := q _ H ev (Ext.refl S.wok)
  cases hb
  exact q)⟩
theorem bad_ok {X : Cx} {e : Expr} : PE X e (tE P X.K .bad) ∧ PT X e (tT P X.K .bad) := ⟨⟨fun pins s σ H Q I q => by
  obtain ⟨O0, H0, O, ρ, R, S, es, ev, q⟩ := q
  unfold Pm.ev PV.ev at ev
  exact False.elim ev⟩, ⟨fun pins s σ H Q I q => by
  obtain ⟨O0, H0, O, ρ, R, S, es, ev, q⟩ := q
  unfold Pm.ev PV.ev at ev
  exact False.elim ev⟩⟩
theorem chkS_fsi {ct : Ct} {s : Src} {tg e : Expr} (hc : chkS ct s tg e = true) : ∀ env x, foldedSetIterable e env x = pure x := by
  cases s with
  | val c =>
    unfold chkS at hc
    rw [Bool.and_eq_true] at hc
    exact fsi hc.1
  | _ =>
    unfold chkS at hc
    cases hv : vCall e with
    | none => rw [hv] at hc; cases hc
    | some q =>
      obtain ⟨x, es⟩ := q
      obtain ⟨p, q, rfl⟩ := vCall_eq hv
      exact fsi rfl
mutual
theorem sE : ∀ (c : E) {ct : Ct} {X : Cx} {e : Expr}, Gd P ct X k → chkE ct c e = true → PE X e (tE P X.K c) ∧ PT X e (tT P X.K c)
  | .none, ct, X, e, g, hc => by
    have h0 := hc
    unfold chkE at h0
    cases hv : vConst e with
    | none => rw [hv] at h0; cases h0
    | some c =>
      rw [hv] at h0
      obtain ⟨j, p, rfl⟩ := vConst_eq hv
      cases c <;> try (cases h0; done)
      exact both g hc (snd_const (v := .non) (d := .none) pe_non (fun ρ => by unfold Pm.ev PV.ev; rfl) (fun H => .non) rfl) rfl
  | .bl b, ct, X, e, g, hc => by
    have h0 := hc
    unfold chkE at h0
    cases hv : vConst e with
    | none => rw [hv] at h0; cases h0
    | some c =>
      rw [hv] at h0
      obtain ⟨j, p, rfl⟩ := vConst_eq hv
      cases c with
      | bool b2 =>
        obtain rfl : b = b2 := beq_iff_eq.mp h0
        exact both g hc (snd_const (v := .bl b) (d := .bool b) pe_bl (fun ρ => by unfold Pm.ev PV.ev; rfl) (fun H => .bl b) rfl) rfl
      | _ => cases h0
  | .int i, ct, X, e, g, hc => by
    have h0 := hc
    unfold chkE at h0
    cases hv : vConst e with
    | none => rw [hv] at h0; cases h0
    | some c =>
      rw [hv] at h0
      obtain ⟨j, p, rfl⟩ := vConst_eq hv
      cases c with
      | int b2 =>
        obtain rfl : i = b2 := beq_iff_eq.mp h0
        exact both g hc (snd_const (v := .int i) (d := .int i) pe_int (fun ρ => by unfold Pm.ev PV.ev; rfl) (fun H => .int i) rfl) rfl
      | _ => cases h0
  | .str i, ct, X, e, g, hc => by
    have h0 := hc
    unfold chkE at h0
    cases hv : vConst e with
    | none => rw [hv] at h0; cases h0
    | some c =>
      rw [hv] at h0
      obtain ⟨j, p, rfl⟩ := vConst_eq hv
      cases c with
      | str b2 =>
        obtain rfl : i = b2 := beq_iff_eq.mp h0
        exact both g hc (snd_const (v := .str i) (d := .str i) pe_str (fun ρ => by unfold Pm.ev PV.ev; rfl) (fun H => .str i) rfl) rfl
      | _ => cases h0
  | .var i, ct, X, e, g, hc => by
    have h0 := hc
    unfold chkE at h0
    cases hv : vName e with
    | none => rw [hv] at h0; cases h0
    | some x =>
      rw [hv] at h0
      obtain ⟨p, rfl⟩ := vName_eq hv
      exact both g hc (snd_var (pe_nm g h0)) rfl
  | .gl n, ct, X, e, g, hc => by
    have h0 := hc
    unfold chkE at h0
    cases hv : vName e with
    | none => rw [hv] at h0; cases h0
    | some x =>
      rw [hv] at h0
      obtain ⟨p, rfl⟩ := vName_eq hv
      simp only [Bool.and_eq_true] at h0
      exact both g hc (snd_gl g h0.1 h0.2.1 h0.2.2) rfl
  | .bin o a b, ct, X, e, g, hc => by
    have h0 := hc
    unfold chkE at h0
    cases hv : vBin e with
    | none => rw [hv] at h0; cases h0
    | some q =>
      obtain ⟨x, op, y⟩ := q
      rw [hv] at h0
      obtain ⟨p, rfl⟩ := vBin_eq hv
      simp only [Bool.and_eq_true, decide_eq_true_eq] at h0
      obtain ⟨rfl, ha, hb⟩ := h0
      exact both g hc (snd_bin (snd_B g ha (sE a g ha).1) (snd_B g hb (sE b g hb).1)) rfl
  | .neg a, ct, X, e, g, hc => by
    have h0 := hc
    unfold chkE at h0
    cases hv : vUn e with
    | none => rw [hv] at h0; cases h0
    | some q =>
      obtain ⟨op, x⟩ := q
      rw [hv] at h0
      obtain ⟨p, rfl⟩ := vUn_eq hv
      cases op <;> try (cases h0; done)
      exact both g hc (snd_neg (snd_B g h0 (sE a g h0).1)) rfl
  | .not a, ct, X, e, g, hc => by
    have h0 := hc
    unfold chkE at h0
    cases hv : vUn e with
    | none => rw [hv] at h0; cases h0
    | some q =>
      obtain ⟨op, x⟩ := q
      rw [hv] at h0
      obtain ⟨p, rfl⟩ := vUn_eq hv
      cases op <;> try (cases h0; done)
      exact ⟨snd_not (snd_B g h0 (sE a g h0).1), sndT_not (sE a g h0).2⟩
  | .and a b, ct, X, e, g, hc => by
    have h0 := hc
    unfold chkE at h0
    cases hv : vBool e with
    | none => rw [hv] at h0; cases h0
    | some q =>
      obtain ⟨op, vs, p⟩ := q
      rw [hv] at h0
      obtain rfl := vBool_eq hv
      cases op <;> try (cases h0; done)
      rcases vs with _ | ⟨x, _ | ⟨y, _ | ⟨z, r⟩⟩⟩
      · cases h0
      · cases h0
      · simp only [Bool.and_eq_true] at h0
        exact ⟨snd_and (sE a g h0.1).1 (pe_one (sE b g h0.2).1), (sndT_and (sE a g h0.1).2 (pw_and1 (sE b g h0.2).2)).pt⟩
      · simp only [Bool.and_eq_true] at h0
        exact ⟨snd_and (sE a g h0.1).1 (sE b g h0.2).1, (sndT_and (sE a g h0.1).2 (pw_of (sE b g h0.2).2)).pt⟩
  | .or a b, ct, X, e, g, hc => by
    have h0 := hc
    unfold chkE at h0
    cases hv : vBool e with
    | none => rw [hv] at h0; cases h0
    | some q =>
      obtain ⟨op, vs, p⟩ := q
      rw [hv] at h0
      obtain rfl := vBool_eq hv
      cases op <;> try (cases h0; done)
      rcases vs with _ | ⟨x, _ | ⟨y, _ | ⟨z, r⟩⟩⟩
      · cases h0
      · cases h0
      · simp only [Bool.and_eq_true] at h0
        exact ⟨snd_or (sE a g h0.1).1 (pe_one (sE b g h0.2).1), (sndT_or (sE a g h0.1).2 (pw_or1 (sE b g h0.2).2)).pt⟩
      · simp only [Bool.and_eq_true] at h0
        exact ⟨snd_or (sE a g h0.1).1 (sE b g h0.2).1, (sndT_or (sE a g h0.1).2 (pw_of (sE b g h0.2).2)).pt⟩
  | .cmp c a b, ct, X, e, g, hc => by
    have h0 := hc
    unfold chkE at h0
    cases hv : vCmp e with
    | none => rw [hv] at h0; cases h0
    | some q =>
      obtain ⟨x, os, bs⟩ := q
      rw [hv] at h0
      obtain ⟨p, rfl⟩ := vCmp_eq hv
      rcases os with _ | ⟨o, _ | ⟨o2, os⟩⟩
      · cases h0
      · rcases bs with _ | ⟨y, _ | ⟨y2, bs⟩⟩
        · cases h0
        · simp only [Bool.and_eq_true, decide_eq_true_eq] at h0
          obtain ⟨rfl, hs, ha, hb⟩ := h0
          exact ⟨snd_cmp g.room (snd_B g ha (sE a g ha).1) (snd_B g hb (sE b g hb).1) hs, sndT_cmp g.room (snd_B g ha (sE a g ha).1) (snd_B g hb (sE b g hb).1) hs⟩
        · cases h0
      · cases h0
  | .chain c1 c2 a b d, ct, X, e, g, hc => by
    have h0 := hc
    unfold chkE at h0
    cases hv : vCmp e with
    | none => rw [hv] at h0; cases h0
    | some q =>
      obtain ⟨x, os, bs⟩ := q
      rw [hv] at h0
      obtain ⟨p, rfl⟩ := vCmp_eq hv
      rcases os with _ | ⟨o, _ | ⟨o2, _ | ⟨o3, os⟩⟩⟩
      · cases h0
      · cases h0
      · rcases bs with _ | ⟨y, _ | ⟨y2, _ | ⟨y3, bs⟩⟩⟩
        · cases h0
        · cases h0
        · simp only [Bool.and_eq_true, decide_eq_true_eq] at h0
          obtain ⟨rfl, rfl, hs, ha, hb, hd⟩ := h0
          exact ⟨snd_chain g.room (snd_B g ha (sE a g ha).1) (snd_B g hb (sE b g hb).1) (snd_B g hd (sE d g hd).1) hs, sndT_chain g.room (snd_B g ha (sE a g ha).1) (snd_B g hb (sE b g hb).1) (snd_B g hd (sE d g hd).1) hs⟩
        · cases h0
      · cases h0
  | .ife t a b, ct, X, e, g, hc => by
    have h0 := hc
    unfold chkE at h0
    cases hv : vIf e with
    | none => rw [hv] at h0; cases h0
    | some q =>
      obtain ⟨z, x, y⟩ := q
      rw [hv] at h0
      obtain ⟨p, rfl⟩ := vIf_eq hv
      simp only [Bool.and_eq_true] at h0
      obtain ⟨ht, ha, hb⟩ := h0
      exact ⟨snd_ife (sE t g ht).2 (sE a g ha).1 (sE b g hb).1, sndT_ife (sE t g ht).2 (sE a g ha).2 (sE b g hb).2⟩
  | .tup cs, ct, X, e, g, hc => by
    have h0 := hc
    unfold chkE at h0
    cases hv : vTup e with
    | none => rw [hv] at h0; cases h0
    | some xs =>
      rw [hv] at h0
      obtain ⟨j, p, rfl⟩ := vTup_eq hv
      simp only [Bool.and_eq_true, decide_eq_true_eq] at h0
      exact both g hc (snd_tup (sEs cs g h0.2) h0.1) rfl
  | .lst cs, ct, X, e, g, hc => by
    have h0 := hc
    unfold chkE at h0
    cases hv : vLst e with
    | none => rw [hv] at h0; cases h0
    | some xs =>
      rw [hv] at h0
      obtain ⟨p, rfl⟩ := vLst_eq hv
      simp only [Bool.and_eq_true, decide_eq_true_eq] at h0
      exact both g hc (snd_lst (sEs cs g h0.2) h0.1) rfl
  | .dct0, ct, X, e, g, hc => by unfold chkE at hc; cases hc
  | .ix a i, ct, X, e, g, hc => by
    have h0 := hc
    unfold chkE at h0
    cases hv : vSub e with
    | none => rw [hv] at h0; cases h0
    | some q =>
      obtain ⟨x, y⟩ := q
      rw [hv] at h0
      obtain ⟨p, rfl⟩ := vSub_eq hv
      simp only [Bool.and_eq_true] at h0
      obtain ⟨hs, ha, hb⟩ := h0
      exact both g hc (snd_ix (snd_B g ha (sE a g ha).1) (snd_B g hb (sE i g hb).1) (by simpa using hs)) rfl
  | .sl a lo hi, ct, X, e, g, hc => by
    have h0 := hc
    unfold chkE at h0
    cases hv : vSub e with
    | none => rw [hv] at h0; cases h0
    | some q =>
      obtain ⟨x, y⟩ := q
      rw [hv] at h0
      obtain ⟨p, rfl⟩ := vSub_eq hv
      cases hs : vSli y with
      | none => simp [hs] at h0
      | some q =>
        obtain ⟨l, h, s⟩ := q
        simp only [hs] at h0
        obtain ⟨p2, rfl⟩ := vSli_eq hs
        cases s with
        | some _ => cases h0
        | none =>
          have h0 : (chkE ct a x && (chkO ct lo l && chkO ct hi h)) = true := h0
          simp only [Bool.and_eq_true] at h0
          obtain ⟨ha, hl, hh⟩ := h0
          have ql : PO X l (tO P X.K lo) := by
            rcases chkO_eq hl with ⟨rfl, rfl⟩ | ⟨z, rfl, hz, hn⟩
            · exact po_no
            · exact po_yes (snd_B g hz (sE lo g hz).1) hn
          have qh : PO X h (tO P X.K hi) := by
            rcases chkO_eq hh with ⟨rfl, rfl⟩ | ⟨z, rfl, hz, hn⟩
            · exact po_no
            · exact po_yes (snd_B g hz (sE hi g hz).1) hn
          exact both g hc (snd_sl (snd_B g ha (sE a g ha).1) ql qh) rfl
  | .rev a, ct, X, e, g, hc => by
    have h0 := hc
    unfold chkE at h0
    cases hv : vSub e with
    | none => simp [hv] at h0
    | some q =>
      obtain ⟨x, y⟩ := q
      simp only [hv] at h0
      obtain ⟨p, rfl⟩ := vSub_eq hv
      cases hs : vSli y with
      | none => simp [hs] at h0
      | some q =>
        obtain ⟨l, h, s⟩ := q
        obtain ⟨p2, rfl⟩ := vSli_eq hs
        cases l with
        | some _ => simp [hs] at h0
        | none =>
          cases h with
          | some _ => simp [hs] at h0
          | none =>
            cases s with
            | none => simp [hs] at h0
            | some z =>
              cases hu : vUn z with
              | none => simp [hs, hu] at h0
              | some q2 =>
                obtain ⟨o, c⟩ := q2
                obtain ⟨p3, rfl⟩ := vUn_eq hu
                cases o <;> try (simp [hs, hu] at h0; done)
                cases hk : vConst c with
                | none => simp [hs, hu, hk] at h0
                | some v =>
                  obtain ⟨j, p4, rfl⟩ := vConst_eq hk
                  simp only [hs, hu, hk] at h0
                  split at h0
                  · rename_i i e1
                    cases e1
                    exact both g hc (snd_rev (snd_B g h0 (sE a g h0).1)) rfl
                  · cases h0
  | .yes, ct, X, e, g, hc => by unfold chkE at hc; cases hc
  | .comp own p s t elt, ct, X, e, g, hc => by
    have h0 := hc
    unfold chkE at h0
    cases hv : vLc1 e with
    | none => rw [hv] at h0; cases h0
    | some q =>
      obtain ⟨el, tg, it, ifs, scope⟩ := q
      rw [hv] at h0
      obtain ⟨ps, rfl⟩ := vLc1_eq hv
      simp only [Bool.and_eq_true] at h0
      obtain ⟨hb, hp, hs, hcp, ht, he⟩ := h0
      obtain ⟨hi, hf⟩ := sS s false g hs
      exact both g hc (snd_comp g hb (fun i hi => by simpa using List.all_eq_true.mp hp i hi) hi (hf X.env) (fun X' g' => snd_pat g' hcp)
        (fun X' g' => by
          rcases chkT_eq ht with ⟨e1, e2⟩ | ⟨x, e2, hx⟩
          · rw [e1, e2]; exact yes_ok
          · rw [e2]; exact pts_one (sE t g' hx).2)
        (fun X' g' => (sE elt g' he).1)) rfl
  | .comp2 own own1 p s t p1 s1 t1 elt, ct, X, e, g, hc => by
    have h0 := hc
    unfold chkE at h0
    cases hv : vLc2 e with
    | none => rw [hv] at h0; cases h0
    | some q =>
      obtain ⟨el, ⟨tg, it, ifs⟩, ⟨tg1, it1, ifs1⟩, scope⟩ := q
      rw [hv] at h0
      obtain ⟨ps, rfl⟩ := vLc2_eq hv
      simp only [Bool.and_eq_true] at h0
      obtain ⟨hb, h1o, hp, hp1, hs, hcp, ht, hs1, hcp1, ht1, he⟩ := h0
      obtain ⟨hi, hf⟩ := sS s false g hs
      exact both g hc (snd_comp2 g hb (fun i hi => by simpa using List.all_eq_true.mp h1o i hi) (fun i hi => by simpa using List.all_eq_true.mp hp i hi) (fun i hi => by simpa using List.all_eq_true.mp hp1 i hi) hi (hf X.env) (chkS_fsi hs1)
        (fun X' g' => snd_pat g' hcp)
        (fun X' g' => by
          rcases chkT_eq ht with ⟨e1, e2⟩ | ⟨x, e2, hx⟩
          · rw [e1, e2]; exact yes_ok
          · rw [e2]; exact pts_one (sE t g' hx).2)
        (fun X' g' => (sS s1 false g' hs1).1) (fun X' g' => snd_pat g' hcp1)
        (fun X' g' => by
          rcases chkT_eq ht1 with ⟨e1, e2⟩ | ⟨x, e2, hx⟩
          · rw [e1, e2]; exact yes_ok
          · rw [e2]; exact pts_one (sE t1 g' hx).2)
        (fun X' g' => (sE elt g' he).1)) rfl
  | .call f cs, ct, X, e, g, hc => by
    have h0 := hc
    unfold chkE at h0
    cases hv : vCall e with
    | none => rw [hv] at h0; cases h0
    | some q =>
      obtain ⟨x, es⟩ := q
      rw [hv] at h0
      obtain ⟨p, q, rfl⟩ := vCall_eq hv
      cases es with
      | nil => cases h0
      | cons y ys =>
        simp only [Bool.and_eq_true] at h0
        obtain ⟨hf, hg, hd, he⟩ := h0
        have hl := (chkEs_len (env := X.env) he).1
        cases cs with
        | nil => unfold chkEs at he; cases he
        | cons c cs =>
          have he2 := he
          unfold chkEs at he2
          rw [Bool.and_eq_true, Bool.and_eq_true] at he2
          obtain ⟨h1, h2, h3⟩ := he2
          exact both g hc (snd_call g hf hg hd h1 ((chkEs_len (env := X.env) h3).2 q) (snd_cons h1 (sE c g h2).1 (sEs cs g h3)) hl) rfl
  | .callw f cs, ct, X, e, g, hc => by
    have h0 := hc
    unfold chkE at h0
    cases hv : vCall e with
    | none => rw [hv] at h0; cases h0
    | some q =>
      obtain ⟨x, es⟩ := q
      rw [hv] at h0
      obtain ⟨p, q, rfl⟩ := vCall_eq hv
      cases es with
      | nil => cases h0
      | cons y ys =>
        have h0 : (match vName y with
          | some z => ct.fs.contains (f, x, (y :: ys).length, true) && (isGl ct x && (notDbg x && (ct.N[ct.iw]? == some z && (isVis ct.sc z && (notDbg z && chkEs ct cs ys)))))
          | none => false) = true := h0
        cases hy : vName y with
        | none => rw [hy] at h0; cases h0
        | some z =>
          rw [hy] at h0
          obtain ⟨pz, rfl⟩ := vName_eq hy
          simp only [Bool.and_eq_true] at h0
          obtain ⟨hf, hg, hd, k1, k2, k3, he⟩ := h0
          have hl := chkEs_len (env := X.env) he
          exact both g hc (snd_callw g hf hg hd (hl.2 q) (by simp only [Bool.and_eq_true]; exact ⟨k1, k2, k3⟩) (sEs cs g he) (by rw [hl.1]; rfl)) rfl
  | .bi b a, ct, X, e, g, hc => by
    have h0 := hc
    unfold chkE at h0
    cases hv : vCall e with
    | none => rw [hv] at h0; cases h0
    | some q =>
      obtain ⟨x, es⟩ := q
      rw [hv] at h0
      obtain ⟨p, q, rfl⟩ := vCall_eq hv
      rcases es with _ | ⟨y, _ | ⟨y2, ys⟩⟩
      · cases h0
      · simp only [Bool.and_eq_true] at h0
        obtain ⟨hb, hx, hg, hs, ha⟩ := h0
        exact both g hc (snd_bi g hb hx hg hs (snd_B g ha (sE a g ha).1)) rfl
      · cases h0
  | .bis b s, ct, X, e, g, hc => by
    have h0 := hc
    unfold chkE at h0
    cases hv : vCall e with
    | none => rw [hv] at h0; cases h0
    | some q =>
      obtain ⟨x, es⟩ := q
      rw [hv] at h0
      obtain ⟨p, q, rfl⟩ := vCall_eq hv
      rcases es with _ | ⟨y, _ | ⟨y2, ys⟩⟩
      · cases h0
      · cases b <;> try (cases h0; done)
        · simp only [Bool.and_eq_true] at h0
          obtain ⟨hx, hg, hs, hr⟩ := h0
          obtain rfl : x = "tuple" := beq_iff_eq.mp hx
          obtain ⟨te, h1, h2⟩ := sR s g hr
          exact both g hc (snd_bis_t g hg hs h1 h2) rfl
        · simp only [Bool.and_eq_true] at h0
          obtain ⟨hx, hg, hs, hr⟩ := h0
          obtain rfl : x = "list" := beq_iff_eq.mp hx
          obtain ⟨te, h1, h2⟩ := sR s g hr
          exact both g hc (snd_bis_l g hg hs h1 h2) rfl
      · cases h0
  | .mx a b, ct, X, e, g, hc => by
    have h0 := hc
    unfold chkE at h0
    cases hv : vCall e with
    | none => rw [hv] at h0; cases h0
    | some q =>
      obtain ⟨x, es⟩ := q
      rw [hv] at h0
      obtain ⟨p, q, rfl⟩ := vCall_eq hv
      rcases es with _ | ⟨y, _ | ⟨y2, _ | ⟨y3, ys⟩⟩⟩
      · cases h0
      · cases h0
      · simp only [Bool.and_eq_true] at h0
        obtain ⟨hx, hg, hs, hs2, ha, hb⟩ := h0
        obtain rfl : x = "max" := beq_iff_eq.mp hx
        exact both g hc (snd_mx g hg hs hs2 (snd_B g ha (sE a g ha).1) (snd_B g hb (sE b g hb).1)) rfl
      · cases h0
  | .mn a b, ct, X, e, g, hc => by
    have h0 := hc
    unfold chkE at h0
    cases hv : vCall e with
    | none => rw [hv] at h0; cases h0
    | some q =>
      obtain ⟨x, es⟩ := q
      rw [hv] at h0
      obtain ⟨p, q, rfl⟩ := vCall_eq hv
      rcases es with _ | ⟨y, _ | ⟨y2, _ | ⟨y3, ys⟩⟩⟩
      · cases h0
      · cases h0
      · simp only [Bool.and_eq_true] at h0
        obtain ⟨hx, hg, hs, hs2, ha, hb⟩ := h0
        obtain rfl : x = "min" := beq_iff_eq.mp hx
        exact both g hc (snd_mn g hg hs hs2 (snd_B g ha (sE a g ha).1) (snd_B g hb (sE b g hb).1)) rfl
      · cases h0
  | .isin a t, ct, X, e, g, hc => by
    have h0 := hc
    unfold chkE at h0
    cases hv : vCall e with
    | none => rw [hv] at h0; cases h0
    | some q =>
      obtain ⟨x, es⟩ := q
      rw [hv] at h0
      obtain ⟨p, q, rfl⟩ := vCall_eq hv
      rcases es with _ | ⟨y, _ | ⟨y2, _ | ⟨y3, ys⟩⟩⟩
      · cases h0
      · cases h0
      · have h0 : (match vName y2 with
          | some n => x == ("isinstance" : Str) && (isGl ct x && (n == Str.ofString (tyN t) && (isGl ct n && (notStar y && chkE ct a y))))
          | none => false) = true := h0
        cases hy : vName y2 with
        | none => rw [hy] at h0; cases h0
        | some n =>
          rw [hy] at h0
          obtain ⟨pz, rfl⟩ := vName_eq hy
          have h0 : (x == ("isinstance" : Str) && (isGl ct x && (n == Str.ofString (tyN t) && (isGl ct n && (notStar y && chkE ct a y))))) = true := h0
          simp only [Bool.and_eq_true] at h0
          obtain ⟨hx, hg, hn, hg2, hs, ha⟩ := h0
          obtain rfl : x = "isinstance" := beq_iff_eq.mp hx
          exact both g hc (snd_isin g hg hn hg2 hs (snd_B g ha (sE a g ha).1)) rfl
      · cases h0
  | .count a x, ct, X, e, g, hc => by unfold chkE at hc; cases hc
  | .index a x, ct, X, e, g, hc => by unfold chkE at hc; cases hc
  | .get1 a x, ct, X, e, g, hc => by unfold chkE at hc; cases hc
  | .get2 a x y, ct, X, e, g, hc => by unfold chkE at hc; cases hc
  | .bad, ct, X, e, g, hc => bad_ok
theorem sEs : ∀ (cs : Es) {ct : Ct} {X : Cx} {es : List Expr}, Gd P ct X k → chkEs ct cs es = true → PA X es (tEs P X.K cs)
  | .nil, ct, X, [], g, hc => snd_nil
  | .nil, ct, X, _ :: _, g, hc => by unfold chkEs at hc; cases hc
  | .cons c cs, ct, X, [], g, hc => by unfold chkEs at hc; cases hc
  | .cons c cs, ct, X, x :: xs, g, hc => by
    unfold chkEs at hc
    rw [Bool.and_eq_true, Bool.and_eq_true] at hc
    obtain ⟨h1, h2, h3⟩ := hc
    exact snd_cons h1 (sE c g h2).1 (sEs cs g h3)
theorem sS : ∀ (s : Src) (fz : Bool) {ct : Ct} {X : Cx} {tg e : Expr}, Gd P ct X k → chkS ct s tg e = true → PI X tg e (tI P X.K fz s) ∧ ∀ env x, foldedSetIterable e env x = pure x
  | .val c, fz, ct, X, tg, e, g, hc => by
    unfold chkS at hc
    rw [Bool.and_eq_true] at hc
    exact ⟨snd_val (snd_M (sE c g hc.2).1 (snd_B g hc.2 (sE c g hc.2).1)), fsi hc.1⟩
  | .r1 a, fz, ct, X, tg, e, g, hc => by
    unfold chkS at hc
    cases hv : vCall e with
    | none => rw [hv] at hc; cases hc
    | some q =>
      obtain ⟨x, es⟩ := q
      rw [hv] at hc
      obtain ⟨p, q, rfl⟩ := vCall_eq hv
      rcases es with _ | ⟨y, _ | ⟨y2, ys⟩⟩
      · cases hc
      · simp only [Bool.and_eq_true] at hc
        obtain ⟨hx, hg, hs, ha⟩ := hc
        obtain rfl : x = "range" := beq_iff_eq.mp hx
        exact ⟨snd_r1 g hg hs (snd_B g ha (sE a g ha).1), fsi rfl⟩
      · cases hc
  | .r2 a b, fz, ct, X, tg, e, g, hc => by
    unfold chkS at hc
    cases hv : vCall e with
    | none => rw [hv] at hc; cases hc
    | some q =>
      obtain ⟨x, es⟩ := q
      rw [hv] at hc
      obtain ⟨p, q, rfl⟩ := vCall_eq hv
      rcases es with _ | ⟨y, _ | ⟨y2, _ | ⟨y3, ys⟩⟩⟩
      · cases hc
      · cases hc
      · simp only [Bool.and_eq_true] at hc
        obtain ⟨hx, hg, hs, hs2, ha, hb⟩ := hc
        obtain rfl : x = "range" := beq_iff_eq.mp hx
        exact ⟨snd_r2 g hg hs hs2 (snd_B g ha (sE a g ha).1) (snd_B g hb (sE b g hb).1), fsi rfl⟩
      · cases hc
  | .r3 a b c, fz, ct, X, tg, e, g, hc => by
    unfold chkS at hc
    cases hv : vCall e with
    | none => rw [hv] at hc; cases hc
    | some q =>
      obtain ⟨x, es⟩ := q
      rw [hv] at hc
      obtain ⟨p, q, rfl⟩ := vCall_eq hv
      rcases es with _ | ⟨y, _ | ⟨y2, _ | ⟨y3, _ | ⟨y4, ys⟩⟩⟩⟩
      · cases hc
      · cases hc
      · cases hc
      · simp only [Bool.and_eq_true] at hc
        obtain ⟨hx, hg, hs, hs2, hs3, ha, hb, hd⟩ := hc
        obtain rfl : x = "range" := beq_iff_eq.mp hx
        exact ⟨snd_r3 g hg hs hs2 hs3 (snd_B g ha (sE a g ha).1) (snd_B g hb (sE b g hb).1) (snd_B g hd (sE c g hd).1), fsi rfl⟩
      · cases hc
  | .zip a b, fz, ct, X, tg, e, g, hc => by
    unfold chkS at hc
    cases hv : vCall e with
    | none => rw [hv] at hc; cases hc
    | some q =>
      obtain ⟨x, es⟩ := q
      rw [hv] at hc
      obtain ⟨p, q, rfl⟩ := vCall_eq hv
      rcases es with _ | ⟨y, _ | ⟨y2, _ | ⟨y3, ys⟩⟩⟩
      · cases hc
      · cases hc
      · simp only [Bool.and_eq_true] at hc
        obtain ⟨ht, hx, hg, hs, hs2, ha, hb⟩ := hc
        obtain rfl : x = "zip" := beq_iff_eq.mp hx
        cases tg with
        | Tuple es kk tp => exact ⟨snd_zip g hg hs hs2 (snd_M (sE a g ha).1 (snd_B g ha (sE a g ha).1)) (snd_M (sE b g hb).1 (snd_B g hb (sE b g hb).1)), fsi rfl⟩
        | _ => cases ht
      · cases hc
theorem sR : ∀ (s : Src) {ct : Ct} {X : Cx} {e : Expr}, Gd P ct X k → chkR ct s e = true → ∃ te, PRg X e te ∧ ∀ σ H O0 H0 O ρ S', Sim X.K P.w P.iw O0 H0 O H σ ρ → NoOw (escS s) ρ → P.evS s ρ S' → ∀ Q : Int → Int → Hp → Prop, (∀ i j H', S' (rng i j) → okR i j = true → Ext P.w H H' → Q i j H') → te σ H Q
  | .val c, ct, X, e, g, hc => by unfold chkR at hc; cases hc
  | .r1 a, ct, X, e, g, hc => by
    unfold chkR at hc
    cases hv : vCall e with
    | none => rw [hv] at hc; cases hc
    | some q =>
      obtain ⟨x, es⟩ := q
      rw [hv] at hc
      obtain ⟨p, q, rfl⟩ := vCall_eq hv
      rcases es with _ | ⟨y, _ | ⟨y2, ys⟩⟩
      · cases hc
      · simp only [Bool.and_eq_true] at hc
        obtain ⟨hx, hg, hs, ha⟩ := hc
        obtain rfl : x = "range" := beq_iff_eq.mp hx
        exact ⟨_, prg_1 (g.gl hg) (g.blt _ (by decide)) (snd_B g ha (sE a g ha).1) (star_cons hs), fun σ H O0 H0 O ρ S' S es ev Q q => rg1_q (X := X) S es ev Q q⟩
      · cases hc
  | .r2 a b, ct, X, e, g, hc => by
    unfold chkR at hc
    cases hv : vCall e with
    | none => rw [hv] at hc; cases hc
    | some q =>
      obtain ⟨x, es⟩ := q
      rw [hv] at hc
      obtain ⟨p, q, rfl⟩ := vCall_eq hv
      rcases es with _ | ⟨y, _ | ⟨y2, _ | ⟨y3, ys⟩⟩⟩
      · cases hc
      · cases hc
      · simp only [Bool.and_eq_true] at hc
        obtain ⟨hx, hg, hs, hs2, ha, hb⟩ := hc
        obtain rfl : x = "range" := beq_iff_eq.mp hx
        exact ⟨_, prg_2 (g.gl hg) (g.blt _ (by decide)) (snd_B g ha (sE a g ha).1) (snd_B g hb (sE b g hb).1) (star_cons hs) (star_cons hs2) (plain1 hs2), fun σ H O0 H0 O ρ S' S es ev Q q => rg2_q (X := X) S es ev Q q⟩
      · cases hc
  | .r3 a b c, ct, X, e, g, hc => by unfold chkR at hc; cases hc
  | .zip a b, ct, X, e, g, hc => by unfold chkR at hc; cases hc
end
end
end PV

set_option maxHeartbeats 4000000
/-! PV: statements: the slots. -/
namespace PV
open PySem L2 RZ

def Kp (O : List Addr) (H : Hp) (O' : List Addr) (H' : Hp) : Prop := Le (hid O H) (hid O' H')
theorem Kp.refl (O : List Addr) (H : Hp) : Kp O H O H := Le.refl _
theorem Kp.trans {O O1 O2 : List Addr} {H H1 H2 : Hp} (a : Kp O H O1 H1) (b : Kp O1 H1 O2 H2) : Kp O H O2 H2 := Le.trans a b
section
variable {K : PySem.W.Frag} {w : Wp} {iw : Nat} {O0 O : List Addr} {H0 H H' : Hp} {σ σ' : L2.St} {ρ ρ' : Env}
theorem Sim.kp (S : Sim K w iw O0 H0 O H σ ρ) (e : Ext w H H') : Kp O H O H' := e.hid S.wo
/-- other names for the slots -/
theorem Sim.reix (S : Sim K w iw O0 H0 O H σ ρ) (f : Nat → Nat) (hl : σ'.length = ρ'.length) (hf : ∀ j s, ρ'[j]? = some s → s = .no ∨ (ρ[f j]? = some s ∧ σ[f j]? = σ'[j]?)) (hi : ∀ j l, j < ρ'.length → l < ρ'.length → f j = f l → j = l)
    (hw : ∀ t, w = some t → σ'[iw]? = some (some (.ref t.1)) ∧ ρ'[iw]? = some .no) : Sim K w iw O0 H0 O H σ' ρ' where
  len := hl
  slot := fun j s h => by
    rcases hf j s h with rfl | ⟨h1, h2⟩
    · trivial
    · rw [← h2]
      exact S.slot _ s h1
  inj := fun j l d1 d2 p h1 h2 h3 h4 => by
    rcases hf j _ h1 with z | ⟨a1, a2⟩
    · cases z
    rcases hf l _ h2 with z | ⟨b1, b2⟩
    · cases z
    have e := S.inj _ _ d1 d2 p a1 b1 (by rw [a2]; exact h3) (by rw [b2]; exact h4)
    exact hi j l (List.getElem?_eq_some_iff.mp h1).1 (List.getElem?_eq_some_iff.mp h2).1 e
  dom := S.dom
  dom0 := S.dom0
  sub := S.sub
  fresh := S.fresh
  ent := S.ent
  w0 := S.w0
  wO := S.wO
  wS := hw
  own := fun j d p h1 h2 => by
    rcases hf j _ h1 with z | ⟨a1, a2⟩
    · cases z
    exact S.own _ d p a1 (by rw [a2]; exact h2)
theorem msk_get {ρ0 ρ : Env} {j : Nat} {s : Slot} (h : (msk ρ0 ρ)[j]? = some s) : s = .no ∨ ρ[j]? = some s := by
  unfold msk at h
  rw [List.getElem?_mapIdx] at h
  cases e : ρ[j]? with
  | none => rw [e] at h; cases h
  | some t =>
    rw [e] at h
    have h := Option.some.inj h
    cases q : ρ0[j]? with
    | none => rw [q] at h; exact .inl h.symm
    | some u =>
      rw [q] at h
      cases u with
      | no => exact .inl h.symm
      | fx _ => exact .inr (congrArg some h)
      | sh _ => exact .inr (congrArg some h)
      | ow _ => exact .inr (congrArg some h)
theorem msk_no {ρ0 ρ : Env} {j : Nat} (h : ρ[j]? = some .no) : (msk ρ0 ρ)[j]? = some .no := by
  unfold msk
  rw [List.getElem?_mapIdx, h]
  cases q : ρ0[j]? with
  | none => simp [q]
  | some u => cases u <;> simp [q]
theorem Sim.msk (S : Sim K w iw O0 H0 O H σ ρ) (ρ0 : Env) : Sim K w iw O0 H0 O H σ (PV.msk ρ0 ρ) :=
  S.reix id (by rw [S.len]; simp [PV.msk]) (fun j s h => (msk_get h).imp_right fun q => ⟨q, rfl⟩) (fun _ _ _ _ e => e) fun t ht => ⟨(S.wS t ht).1, msk_no (S.wS t ht).2⟩

/-- the places that the names vs alone hold -/
def plOf (vs : List Nat) (σ : L2.St) (ρ : Env) : List Addr := vs.filterMap fun (i : Nat) => match ρ[i]?, σ[i]? with
  | some (.ow _), some (some (.ref p)) => some p
  | _, _ => none
theorem mem_pl {vs : List Nat} {p : Addr} : p ∈ plOf vs σ ρ ↔ ∃ i ∈ vs, ∃ d, ρ[i]? = some (.ow d) ∧ σ[i]? = some (some (.ref p)) := by
  unfold plOf
  rw [List.mem_filterMap]
  constructor
  · rintro ⟨i, hi, h⟩
    refine ⟨i, hi, ?_⟩
    split at h
    · rename_i d q e1 e2
      cases h
      exact ⟨d, e1, e2⟩
    · cases h
  · rintro ⟨i, hi, d, e1, e2⟩
    refine ⟨i, hi, ?_⟩
    rw [e1, e2]
theorem frz_get {vs : List Nat} {ρ : Env} {j : Nat} : (frz vs ρ)[j]? = (ρ[j]?).map fun s => if vs.contains j then s.frz else s := by
  unfold frz
  rw [List.getElem?_mapIdx]
theorem Sim.frz (S : Sim K w iw O0 H0 O H σ ρ) (vs : List Nat) : ∃ O', Sim K w iw O0 H0 O' H σ (PV.frz vs ρ) ∧ Kp O H O' H ∧ NoOw vs (PV.frz vs ρ) := by
  have sub : ∀ a, a ∈ O.filter (fun p => !(plOf vs σ ρ).contains p) → a ∈ O := fun a h => (List.mem_filter.mp h).1
  have le : Le (hid O H) (hid (O.filter fun p => !(plOf vs σ ρ).contains p) H) := hid_sub sub
  refine ⟨O.filter fun p => !(plOf vs σ ρ).contains p, ⟨by rw [S.len]; simp [PV.frz], fun j s h => ?_, fun j l d1 d2 p h1 h2 h3 h4 => ?_, fun p hp => S.dom p (sub p hp), S.dom0, fun p hp => ?_, fun p hp => S.fresh p (sub p hp), S.ent, S.w0, S.wO, fun t ht => ?_, fun j d p h1 h2 => ?_⟩, le, fun i hi => ?_⟩
  · rw [frz_get] at h
    cases e : ρ[j]? with
    | none => rw [e] at h; cases h
    | some t =>
      rw [e] at h
      have q := S.slot j t e
      by_cases hj : j ∈ vs
      · have h : t.frz = s := by simpa [hj] using h
        subst h
        cases t with
        | no => trivial
        | fx v => exact q
        | sh d =>
          obtain ⟨v, e1, r⟩ := q
          exact ⟨v, e1, r.mono le⟩
        | ow d =>
          obtain ⟨p, e1, hp, ds, us, e2, hH, r⟩ := q
          subst e2
          refine ⟨.ref p, e1, .lst (hid_in (fun hm => ?_) hH) (r.mono le)⟩
          have z := (List.mem_filter.mp hm).2
          have z2 : p ∈ plOf vs σ ρ := mem_pl.mpr ⟨j, hj, _, e, join_some e1⟩
          simp [z2] at z
      · have h : t = s := by simpa [hj] using h
        subst h
        cases t with
        | no => trivial
        | fx v => exact q
        | sh d =>
          obtain ⟨v, e1, r⟩ := q
          exact ⟨v, e1, r.mono le⟩
        | ow d =>
          obtain ⟨p, e1, hp, ds, us, e2, hH, r⟩ := q
          refine ⟨p, e1, List.mem_filter.mpr ⟨hp, ?_⟩, ds, us, e2, hH, r.mono le⟩
          have z2 : p ∉ plOf vs σ ρ := fun hm => by
            obtain ⟨i, hi, d', e3, e4⟩ := mem_pl.mp hm
            have := S.inj i j _ _ p e3 e e4 (join_some e1)
            subst this
            exact hj hi
          simp [z2]
  · have g : ∀ {j : Nat} {d : D}, (PV.frz vs ρ)[j]? = some (.ow d) → ρ[j]? = some (.ow d) := fun {j d} h => by
      rw [frz_get] at h
      cases e : ρ[j]? with
      | none => rw [e] at h; cases h
      | some t =>
        rw [e] at h
        by_cases hj : j ∈ vs
        · have h : t.frz = .ow d := by simpa [hj] using h
          cases t <;> cases h
        · have h : t = .ow d := by simpa [hj] using h
          rw [h]
    exact S.inj j l d1 d2 p (g h1) (g h2) h3 h4
  · refine List.mem_filter.mpr ⟨S.sub p hp, ?_⟩
    have z2 : p ∉ plOf vs σ ρ := fun hm => by
      obtain ⟨i, hi, d', e3, e4⟩ := mem_pl.mp hm
      exact S.dom0 p hp (S.own i d' p e3 e4)
    simp [z2]
  · refine ⟨(S.wS t ht).1, ?_⟩
    rw [frz_get, (S.wS t ht).2]
    by_cases hj : iw ∈ vs <;> simp [hj, Slot.frz]
  · rw [frz_get] at h1
    cases e : ρ[j]? with
    | none => rw [e] at h1; cases h1
    | some t =>
      rw [e] at h1
      by_cases hj : j ∈ vs
      · have h : t.frz = .ow d := by simpa [hj] using h1
        cases t <;> cases h
      · have h : t = .ow d := by simpa [hj] using h1
        subst h
        exact S.own j d p e h2
  · unfold getO
    rw [frz_get]
    cases e : ρ[i]? with
    | none => rfl
    | some t => cases t <;> simp [hi, Slot.frz, Slot.own?]
theorem noOw_app {a b : List Nat} (h : NoOw a ρ) (h2 : NoOw b ρ) : NoOw (a ++ b) ρ := fun i hi => (List.mem_append.mp hi).elim (h i) (h2 i)

/-- one more slot at the end: a value just reckoned -/
theorem Sim.push {c : E} {v : V} {d : D} (S : Sim K w iw O0 H0 O H σ ρ) (e : Ext w H H') (r : Res c K O H H' v d) (hiw : ∀ t, w = some t → iw < ρ.length) : ∃ O', Sim K w iw O0 H0 O' H' (σ ++ [some v]) (ρ ++ [slotOf c d]) ∧ Kp O H O' H' := by
  have get1 : ∀ {α : Type} {l : List α} {x y : α} {j : Nat}, (l ++ [x])[j]? = some y → (j < l.length ∧ l[j]? = some y) ∨ (j = l.length ∧ x = y) := fun {α l x y j} h => by
    by_cases hj : j < l.length
    · rw [List.getElem?_append_left hj] at h
      exact .inl ⟨hj, h⟩
    · rw [List.getElem?_append_right (by omega)] at h
      cases hk : j - l.length with
      | zero => rw [hk] at h; exact .inr ⟨by omega, by simpa using h⟩
      | succ n => rw [hk] at h; simp at h
  unfold slotOf
  by_cases hf : (c.fresh && isMut d) = true
  · rw [if_pos hf]
    rw [Bool.and_eq_true] at hf
    obtain ⟨p, us, ds, rfl, rfl, hp, hp', rs⟩ := r.2 hf.1 hf.2
    have S2 := S.grow hp e (by rw [hp']; simp)
    have h0 : H0 p = none := by
      rcases S2.fresh p (by simp) with z | z
      · exact absurd hp (S.dom p (S.sub p z))
      · exact z
    refine ⟨p :: O, ⟨by simp [S.len], fun j s h => ?_, fun j l d1 d2 q h1 h2 h3 h4 => ?_, S2.dom, S2.dom0, S2.sub, S2.fresh, S2.ent, S2.w0, S2.wO, fun t ht => ?_, fun j d q h1 h2 => ?_⟩, ?_⟩
    · rcases get1 h with ⟨hj, h⟩ | ⟨rfl, rfl⟩
      · have q := S2.slot j s h
        rwa [List.getElem?_append_left (by rw [S.len]; exact hj)]
      · refine ⟨p, ?_, by simp, ds, us, rfl, hp', rs⟩
        rw [← S.len, List.getElem?_append_right (by omega)]
        simp
    · have old : ∀ {j : Nat} {d : D} {q : Addr}, j < ρ.length → ρ[j]? = some (Slot.ow d) → (σ ++ [some (V.ref p)])[j]? = some (some (.ref q)) → q ≠ p := fun {j d q} hj a b z => by
        subst z
        rw [List.getElem?_append_left (by rw [S.len]; exact hj)] at b
        obtain ⟨q2, e1, hq, ds2, us2, e2, hH, _⟩ := S.slot j _ a
        rw [b] at e1
        cases e1
        rw [hp] at hH
        cases hH
      have new : ∀ {q : Addr}, (σ ++ [some (V.ref p)])[ρ.length]? = some (some (.ref q)) → q = p := fun {q} h => by
        rw [← S.len, List.getElem?_append_right (by omega)] at h
        simpa using h.symm
      rcases get1 h1 with ⟨hj, h1⟩ | ⟨rfl, _⟩
      · rcases get1 h2 with ⟨hl, h2⟩ | ⟨rfl, _⟩
        · rw [List.getElem?_append_left (by rw [S.len]; exact hj)] at h3
          rw [List.getElem?_append_left (by rw [S.len]; exact hl)] at h4
          exact S.inj j l d1 d2 q h1 h2 h3 h4
        · exact absurd (new h4) (old hj h1 h3)
      · rcases get1 h2 with ⟨hl, h2⟩ | ⟨rfl, _⟩
        · exact absurd (new h3) (old hl h2 h4)
        · rfl
    · have hl := hiw t ht
      obtain ⟨a, b⟩ := S.wS t ht
      rw [List.getElem?_append_left (by rw [S.len]; exact hl), List.getElem?_append_left hl]
      exact ⟨a, b⟩
    · rcases get1 h1 with ⟨hj, h1⟩ | ⟨rfl, _⟩
      · rw [List.getElem?_append_left (by rw [S.len]; exact hj)] at h2
        exact S.own j d q h1 h2
      · rw [← S.len, List.getElem?_append_right (by omega)] at h2
        have : p = q := by simpa using h2
        subst this
        exact h0
    · intro a o h
      have h1 := hid_out h
      have h2 := hid_le O H _ _ h
      have ne : a ≠ p := fun z => by subst z; rw [hp] at h2; cases h2
      exact hid_in (by simp [ne, h1]) (e.1 a o (fun z => h1 (S.wo a z)) h2)
  · rw [if_neg hf]
    have S2 := S.ext e
    refine ⟨O, ⟨by simp [S.len], fun j s h => ?_, fun j l d1 d2 q h1 h2 h3 h4 => ?_, S2.dom, S2.dom0, S2.sub, S2.fresh, S2.ent, S2.w0, S2.wO, fun t ht => ?_, fun j d q h1 h2 => ?_⟩, S.kp e⟩
    · rcases get1 h with ⟨hj, h⟩ | ⟨rfl, rfl⟩
      · have q := S2.slot j s h
        rwa [List.getElem?_append_left (by rw [S.len]; exact hj)]
      · refine ⟨v, ?_, r.1⟩
        rw [← S.len, List.getElem?_append_right (by omega)]
        simp
    · rcases get1 h1 with ⟨hj, h1⟩ | ⟨rfl, z⟩
      · rcases get1 h2 with ⟨hl, h2⟩ | ⟨rfl, z⟩
        · rw [List.getElem?_append_left (by rw [S.len]; exact hj)] at h3
          rw [List.getElem?_append_left (by rw [S.len]; exact hl)] at h4
          exact S.inj j l d1 d2 q h1 h2 h3 h4
        · cases z
      · cases z
    · have hl := hiw t ht
      obtain ⟨a, b⟩ := S.wS t ht
      rw [List.getElem?_append_left (by rw [S.len]; exact hl), List.getElem?_append_left hl]
      exact ⟨a, b⟩
    · rcases get1 h1 with ⟨hj, h1⟩ | ⟨rfl, z⟩
      · rw [List.getElem?_append_left (by rw [S.len]; exact hj)] at h2
        exact S.own j d q h1 h2
      · cases z
/-- the first slots alone -/
theorem Sim.take {us : L2.St} {ss : Env} (S : Sim K w iw O0 H0 O H (σ ++ us) (ρ ++ ss)) (hl : σ.length = ρ.length) (hiw : ∀ t, w = some t → iw < ρ.length) : Sim K w iw O0 H0 O H σ ρ :=
  S.reix id hl (fun j s h => .inr (by
    have hj : j < ρ.length := (List.getElem?_eq_some_iff.mp h).1
    refine ⟨?_, ?_⟩
    · show (ρ ++ ss)[j]? = some s
      rw [List.getElem?_append_left hj]
      exact h
    · show (σ ++ us)[j]? = σ[j]?
      rw [List.getElem?_append_left (by omega)])) (fun _ _ _ _ e => e) fun t ht => by
    have h := hiw t ht
    obtain ⟨a, b⟩ := S.wS t ht
    rw [List.getElem?_append_left (by omega)] at a b
    exact ⟨a, b⟩
/-- the slot behind the first ones goes to i -/
theorem Sim.move {us : L2.St} {ss : Env} {v : Option V} {s : Slot} {i : Nat} (S : Sim K w iw O0 H0 O H (σ ++ v :: us) (ρ ++ s :: ss)) (hl : σ.length = ρ.length) (hi : i < ρ.length) (hiw : i ≠ iw) (hw : ∀ t, w = some t → iw < ρ.length) :
    Sim K w iw O0 H0 O H (σ.set i v ++ us) (ρ.set i s ++ ss) := by
  have hlen := S.len
  simp only [List.length_append, List.length_cons] at hlen
  refine S.reix (fun j => if j = i then ρ.length else if j < ρ.length then j else j + 1) (by simp; omega) (fun j t h => .inr ?_) (fun j l hj hl2 e => ?_) fun t ht => ?_
  · by_cases e : j = i
    · subst e
      rw [List.getElem?_append_left (by simpa using hi), List.getElem?_set_self hi] at h
      simp only [if_true]
      refine ⟨?_, ?_⟩
      · rw [List.getElem?_append_right (by omega)]
        simpa using h
      · rw [← hl, List.getElem?_append_right (by omega), List.getElem?_append_left (by simp; omega), List.getElem?_set_self (by omega)]
        simp
    · simp only [if_neg e]
      by_cases hj : j < ρ.length
      · rw [if_pos hj]
        rw [List.getElem?_append_left (by simpa using hj), List.getElem?_set_ne (fun z => e z.symm)] at h
        refine ⟨?_, ?_⟩
        · rw [List.getElem?_append_left hj]
          exact h
        · rw [List.getElem?_append_left (by omega), List.getElem?_append_left (by simp; omega), List.getElem?_set_ne (fun z => e z.symm)]
      · rw [if_neg hj]
        rw [List.getElem?_append_right (by simp; omega)] at h
        simp only [List.length_set] at h
        refine ⟨?_, ?_⟩
        · rw [List.getElem?_append_right (by omega), show j + 1 - ρ.length = (j - ρ.length) + 1 by omega, List.getElem?_cons_succ]
          exact h
        · rw [List.getElem?_append_right (by omega), show j + 1 - σ.length = (j - σ.length) + 1 by omega, List.getElem?_cons_succ, List.getElem?_append_right (by simp; omega)]
          simp
  · have e : (if j = i then ρ.length else if j < ρ.length then j else j + 1) = if l = i then ρ.length else if l < ρ.length then l else l + 1 := e
    simp only [List.length_append, List.length_set] at hj hl2
    split at e <;> split at e <;> first | omega | (split at e <;> first | omega | (split at e <;> omega))
  · have h := hw t ht
    obtain ⟨a, b⟩ := S.wS t ht
    rw [List.getElem?_append_left (by omega)] at a b
    rw [List.getElem?_append_left (by simp; omega), List.getElem?_append_left (by simpa using h), List.getElem?_set_ne hiw, List.getElem?_set_ne hiw]
    exact ⟨a, b⟩
/-- a slot's own list is written -/
theorem Sim.setMut (S : Sim K w iw O0 H0 O H σ ρ) {i : Nat} {d : D} {p : Addr} {us : List V} {ds : List D} (h1 : ρ[i]? = some (.ow d)) (h2 : σ[i]? = some (some (.ref p))) (r : Rps K (hid O H) us ds) :
    Sim K w iw O0 H0 O (upd H p (.lst us)) σ (ρ.set i (.ow (.list ds))) ∧ Kp O H O (upd H p (.lst us)) := by
  obtain ⟨q, e1, hp, ds0, us0, e2, hH, _⟩ := S.slot i _ h1
  rw [h2] at e1
  cases e1
  have hh : hid O (upd H p (.lst us)) = hid O H := hid_upd hp
  have h0 := S.own i d p h1 h2
  have hi : i < ρ.length := (List.getElem?_eq_some_iff.mp h1).1
  have get : ∀ {j : Nat} {s : Slot}, (ρ.set i (.ow (.list ds)))[j]? = some s → (j = i ∧ s = .ow (.list ds)) ∨ (j ≠ i ∧ ρ[j]? = some s) := fun {j s} h => by
    by_cases e : i = j
    · subst e
      rw [List.getElem?_set_self hi] at h
      exact .inl ⟨rfl, (Option.some.inj h).symm⟩
    · rw [List.getElem?_set_ne e] at h
      exact .inr ⟨fun z => e z.symm, h⟩
  have ow : ∀ {j : Nat} {e : D}, (ρ.set i (.ow (.list ds)))[j]? = some (.ow e) → ∃ e' : D, ρ[j]? = some (.ow e') := fun {j e} h => by
    rcases get h with ⟨rfl, _⟩ | ⟨_, h⟩
    · exact ⟨_, h1⟩
    · exact ⟨_, h⟩
  refine ⟨⟨by simp [S.len], fun j s h => ?_, fun j l d1 d2 q a b c e => ?_, fun q hq => ?_, S.dom0, S.sub, S.fresh, ⟨fun a o n e => ?_, ?_⟩, S.w0, S.wO, fun t ht => ?_, fun j d q a b => ?_⟩, by unfold Kp; rw [hh]; exact Le.refl _⟩
  · rcases get h with ⟨rfl, rfl⟩ | ⟨hj, h⟩
    · exact ⟨p, by rw [h2]; rfl, hp, ds, us, rfl, by simp [upd], by rw [hh]; exact r⟩
    · have q := S.slot j s h
      cases s with
      | no => trivial
      | fx v => exact q
      | sh d =>
        obtain ⟨v, e1, r⟩ := q
        exact ⟨v, e1, by rw [hh]; exact r⟩
      | ow d2 =>
        obtain ⟨q, e1, hq, ds1, us1, e2, hH1, r1⟩ := q
        have ne : q ≠ p := fun z => by
          subst z
          exact hj (S.inj j i _ _ q h h1 (join_some e1) h2)
        exact ⟨q, e1, hq, ds1, us1, e2, by rw [upd_ne ne]; exact hH1, by rw [hh]; exact r1⟩
  · obtain ⟨_, a⟩ := ow a
    obtain ⟨_, b⟩ := ow b
    exact S.inj j l _ _ q a b c e
  · by_cases e : q = p
    · subst e
      simp [upd]
    · rw [upd_ne e]
      exact S.dom q hq
  · have ne : a ≠ p := fun z => by subst z; rw [h0] at e; cases e
    rw [upd_ne ne]
    exact S.ent.1 a o n e
  · have hwk : XD w p H (upd H p (.lst us)) := XD.upd (x := ⟨fun _ _ _ _ q => q, S.wok⟩) (wD S.w0 h0)
    exact hwk.2
  · obtain ⟨a, b⟩ := S.wS t ht
    refine ⟨a, ?_⟩
    rw [List.getElem?_set_ne]
    · exact b
    · intro z
      subst z
      rw [b] at h1
      cases h1
  · obtain ⟨_, a⟩ := ow a
    exact S.own j _ q a b
end
end PV

set_option maxHeartbeats 4000000
/-! PV: the checker of statements; assignments. -/
namespace PV
open PySem L2 RZ

/-! views -/
def vNameP : Expr → Option (Str × Pos)
  | .Name x p => some (x, p)
  | _ => none
def vTupP : Expr → Option (List Expr × Nat × Pos)
  | .Tuple es k p => some (es, k, p)
  | _ => none
def vAsg : Stmt → Option (Expr × Expr × Pos)
  | .Assign [t] v p => some (t, v, p)
  | _ => none
def vAug : Stmt → Option (Expr × Operator × Expr)
  | .AugAssign t o v _ => some (t, o, v)
  | _ => none
def vExp : Stmt → Option Expr
  | .Expr e _ => some e
  | _ => none
def vIfS : Stmt → Option (Expr × List Stmt × List Stmt)
  | .If t a b _ => some (t, a, b)
  | _ => none
def vWhl : Stmt → Option (Expr × List Stmt)
  | .While t a [] _ => some (t, a)
  | _ => none
def vFor : Stmt → Option (Expr × Expr × List Stmt)
  | .For t i a [] _ => some (t, i, a)
  | _ => none
def vRet : Stmt → Option Expr
  | .Return (some e) _ => some e
  | _ => none
theorem vNameP_eq {e : Expr} {x : Str} {p : Pos} (h : vNameP e = some (x, p)) : e = .Name x p := by
  cases e <;> simp [vNameP] at h
  obtain ⟨rfl, rfl⟩ := h
  rfl
theorem vTupP_eq {e : Expr} {es : List Expr} {k : Nat} {p : Pos} (h : vTupP e = some (es, k, p)) : e = .Tuple es k p := by
  cases e <;> simp [vTupP] at h
  obtain ⟨rfl, rfl, rfl⟩ := h
  rfl
theorem vAsg_eq {s : Stmt} {t v : Expr} {p : Pos} (h : vAsg s = some (t, v, p)) : s = .Assign [t] v p := by
  unfold vAsg at h
  split at h
  · cases h
    rfl
  · cases h
theorem vAug_eq {s : Stmt} {t v : Expr} {o : Operator} (h : vAug s = some (t, o, v)) : ∃ p, s = .AugAssign t o v p := by
  cases s <;> simp [vAug] at h
  obtain ⟨rfl, rfl, rfl⟩ := h
  exact ⟨_, rfl⟩
theorem vExp_eq {s : Stmt} {e : Expr} (h : vExp s = some e) : ∃ p, s = .Expr e p := by
  cases s <;> simp [vExp] at h
  subst h
  exact ⟨_, rfl⟩
theorem vIfS_eq {s : Stmt} {t : Expr} {a b : List Stmt} (h : vIfS s = some (t, a, b)) : ∃ p, s = .If t a b p := by
  cases s <;> simp [vIfS] at h
  obtain ⟨rfl, rfl, rfl⟩ := h
  exact ⟨_, rfl⟩
theorem vWhl_eq {s : Stmt} {t : Expr} {a : List Stmt} (h : vWhl s = some (t, a)) : ∃ p, s = .While t a [] p := by
  unfold vWhl at h
  split at h
  · cases h
    exact ⟨_, rfl⟩
  · cases h
theorem vFor_eq {s : Stmt} {t i : Expr} {a : List Stmt} (h : vFor s = some (t, i, a)) : ∃ p, s = .For t i a [] p := by
  unfold vFor at h
  split at h
  · cases h
    exact ⟨_, rfl⟩
  · cases h
theorem vRet_eq {s : Stmt} {e : Expr} (h : vRet s = some e) : ∃ p, s = .Return (some e) p := by
  unfold vRet at h
  split at h
  · cases h
    exact ⟨_, rfl⟩
  · cases h

/-! the compiler's ways to store -/
def swF (sc : Scope) (x : Str) (p : Pos) (s : Scope) (vp : Pos) : Bool := sc.names.lookup x == some .local && p.line == vp.line && !(s.names.any fun (n, k) => n == x && (k == .local || k == .cell))
def swB (sc : Scope) (x : Str) (p : Pos) : Expr → Bool
  | .ListComp a b s q => swF sc x p s (Expr.ListComp a b s q).pos
  | .SetComp a b s q => swF sc x p s (Expr.SetComp a b s q).pos
  | .DictComp a b c s q => swF sc x p s (Expr.DictComp a b c s q).pos
  | _ => false
theorem sw_eq {env : PySem.Env} {sc : Scope} (hs : env.scope = sc) (hk : sc.kind = .function) {v : Expr} {x : Str} {p : Pos} {l : Nat} : swapsWith v (some (.Name x p)) l env = pure (swB sc x p v) := by
  have hb : env.blockKind = .function := by
    unfold Env.blockKind
    rw [hs, hk]
    rfl
  have e1 : (env.blockKind == ScopeKind.function) = true := by rw [hb]; rfl
  cases v <;> first
    | rfl
    | (unfold swapsWith swB swF
       show (pure (env.blockKind == .function && env.kindOf x == some .local && _ && _) : Sem Bool) = _
       rw [e1, Bool.true_and]
       unfold Env.kindOf
       rw [hs])
theorem sw_other {v t : Expr} {l : Nat} {env : PySem.Env} (h : vNameP t = none) : swapsWith v (some t) l env = pure false := by
  cases t <;> first
    | (simp [vNameP] at h; done)
    | (cases v <;> rfl)
def lnOf (ts : List Expr) : Nat := (ts.head?.map (·.pos.line)).getD 0
def nmsOf (sc : Scope) (ts : List Expr) : List Str := ts.filterMap fun
  | .Name id pos => if sc.names.lookup id == some .local && pos.line == lnOf ts then some id else none
  | _ => none
def isStar : Expr → Bool
  | .Starred .. => true
  | _ => false
/-- outer none: not told -/
def swpB (sc : Scope) (ts vs : List Expr) : Option (Option (List Str)) :=
  if !(ts.length == 2 || ts.length == 3) || vs.length != ts.length then some none
  else if vs.any isStar then some none
  else if (nmsOf sc ts).length != ts.length || (nmsOf sc ts).eraseDups.length != (nmsOf sc ts).length then some none
  else if vs.all (foldedForSure 8) then some none
  else if vs.all (constantsAlone 8) then none
  else some (some (nmsOf sc ts))
/-- a tuple unpacked from a tuple written out: no stores exchanged -/
def swpN (sc : Scope) (t v : Expr) : Bool := match vTupP t, vTupP v with
  | some (ts, _, _), some (vs, _, _) => (swpB sc ts vs).isSome && ((swpB sc ts vs).bind id).isNone
  | _, _ => false
theorem swp_eq {env : PySem.Env} {sc : Scope} (hs : env.scope = sc) (hk : sc.kind = .function) {ts vs : List Expr} {k k2 : Nat} {p p2 : Pos} {r : Option (List Str)} (h : swpB sc ts vs = some r) : swappedStores [.Tuple ts k p] (.Tuple vs k2 p2) env = pure r := by
  have hb : env.blockKind = .function := by
    unfold Env.blockKind
    rw [hs, hk]
    rfl
  have e1 : (env.blockKind != ScopeKind.function) = false := by rw [hb]; rfl
  have e2 : (ts.filterMap fun x => match x with
    | .Name id pos => if env.kindOf id == some .local && pos.line == lnOf ts then some id else none
    | _ => none) = nmsOf sc ts := by
    unfold nmsOf Env.kindOf
    rw [hs]
  have e3 : (vs.any fun x => match x with
    | .Starred .. => true
    | _ => false) = vs.any isStar := rfl
  unfold swpB at h
  have goal : swappedStores [.Tuple ts k p] (.Tuple vs k2 p2) env = (if !(ts.length == 2 || ts.length == 3) || vs.length != ts.length || env.blockKind != .function then pure none
    else if vs.any isStar then pure none
    else if (nmsOf sc ts).length != ts.length || (nmsOf sc ts).eraseDups.length != (nmsOf sc ts).length then pure none
    else if vs.all (foldedForSure 8) then pure none
    else if vs.all (constantsAlone 8) then (do unsupported "assign.tuple-of-constant-expressions:order-of-the-stores"; pure (some (nmsOf sc ts)))
    else pure (some (nmsOf sc ts))) := by
    rw [← e2]
    rfl
  rw [goal, e1, Bool.or_false]
  split at h
  · rename_i c
    cases h
    rw [if_pos c]
  · rename_i c
    rw [if_neg c]
    split at h
    · rename_i c
      cases h
      rw [if_pos c]
    · rename_i c
      rw [if_neg c]
      split at h
      · rename_i c
        cases h
        rw [if_pos c]
      · rename_i c
        rw [if_neg c]
        split at h
        · rename_i c
          cases h
          rw [if_pos c]
        · rename_i c
          rw [if_neg c]
          split at h
          · cases h
          · rename_i c
            rw [if_neg c]
            cases h
            rfl
def E.isComp : E → Bool
  | .comp .. => true
  | .comp2 .. => true
  | _ => false
def chkN (ct : Ct) (i : Nat) (x : Str) : Bool := ct.N[i]? == some x && (isLoc ct.own x && !(i == ct.iw))
def chkNs (ct : Ct) : List Nat → List Expr → Bool
  | [], [] => true
  | i :: is, t :: ts => (match vNameP t with
    | some (x, _) => chkN ct i x
    | none => false) && chkNs ct is ts
  | _, _ => false
def chkV (ct : Ct) (i : Nat) (o : Expr) : Bool := match vName o with
  | some x => ct.N[i]? == some x && (isVis ct.sc x && notDbg x)
  | none => false
def nodupB : List Nat → Bool
  | [] => true
  | i :: is => !is.contains i && nodupB is
/-- .. the pair or triple stored from the right -/
def parOk (ct : Ct) (is : List Nat) (ts : List Expr) (r : Option (List Str)) : Bool := match r with
  | none => true
  | some ns => (is.length == 2 || is.length == 3) && (ts.map vNameP).all (fun o => match o with
    | some (x, _) => ct.sc.names.lookup x == some .local
    | none => false) && ns == ts.filterMap fun t => (vNameP t).map (·.1)
def augOk : Op2 → Bool
  | .add => true
  | .sub => true
  | _ => false
mutual
def chkSt (ct : Ct) : S → Stmt → Bool
  | .pass, s => match s with
    | .Pass _ => true
    | .Expr (.Constant (.str _) _ _) _ => true
    | _ => false
  | .asg i e, s => match vAsg s with
    | some (t, v, p) => match vNameP t with
      | some (x, q) => chkN ct i x && (chkE ct e v && (!(swB ct.sc x q v) || e.isComp))
      | none => false
    | none => false
  | .asgp is es, s => match vAsg s with
    | some (t, v, p) => match vTupP t, vTupP v with
      | some (ts, _, _), some (vs, _, _) => nodupB is && (chkNs ct is ts && (decide (es.len ≤ 1000) && (chkEs ct es vs && (es.len == is.length && (match swpB ct.sc ts vs with
        | some r => parOk ct is ts r
        | none => false)))))
      | _, _ => false
    | none => false
  | .asgt p e, s => match vAsg s with
    | some (t, v, q) => isTupE t && ((!isTupE v || swpN ct.sc t v) && (chkP ct p t && chkE ct e v))
    | none => false
  | .aug i o e, s => match vAug s with
    | some (t, op, v) => match vNameP t with
      | some (x, q) => chkN ct i x && (augOk o && (decide (op = binOp o) && (isVis ct.sc x && chkE ct e v)))
      | none => false
    | none => false
  | .app i e, s => match vExp s with
    | some x => match vMeth x with
      | some (o, m, ap, [y], cp) => m == ("append" : Str) && (ap.endLine == cp.line && (chkV ct i o && (notStar y && chkE ct e y)))
      | _ => false
    | none => false
  | .ext i e, s => match vExp s with
    | some x => match vMeth x with
      | some (o, m, ap, [y], cp) => m == ("extend" : Str) && (ap.endLine == cp.line && (chkV ct i o && (notStar y && chkE ct e y)))
      | _ => false
    | none => false
  | .ins0 i e, s => match vExp s with
    | some x => match vMeth x with
      | some (o, m, ap, [z, y], cp) => m == ("insert" : Str) && (ap.endLine == cp.line && (chkV ct i o && (chkE ct (.int 0) z && (notStar z && (notStar y && chkE ct e y)))))
      | _ => false
    | none => false
  | .seti i k e, s => match vAsg s with
    | some (t, v, p) => match vSub t with
      | some (o, ix) => chkV ct i o && ((vSli ix).isNone && (chkE ct k ix && chkE ct e v))
      | none => false
    | none => false
  | .popt p i, s => match vAsg s with
    | some (t, v, q) => match vMeth v with
      | some (o, m, ap, [], cp) => m == ("pop" : Str) && (ap.endLine == cp.line && (chkV ct i o && ((isTupE t || (vNameP t).isSome) && chkP ct p t)))
      | _ => false
    | none => false
  | .ite t a b, s => match vIfS s with
    | some (c, xs, ys) => chkE ct t c && (chkSs ct a xs && chkSs ct b ys)
    | none => false
  | .whl t b, s => match vWhl s with
    | some (c, xs) => chkE ct t c && chkSs ct b xs
    | none => false
  | .for_ p sr b, s => match vFor s with
    | some (tg, it, xs) => chkS ct sr tg it && (chkP ct p tg && chkSs ct b xs)
    | none => false
  | .ret e, s => match vRet s with
    | some v => chkE ct e v
    | none => false
  | .brk, s => match s with
    | .Break _ => true
    | _ => false
  | .bad, _ => true
  | _, _ => false
def chkSs (ct : Ct) : Ss → List Stmt → Bool
  | .nil, [] => true
  | .cons s r, st :: sts => chkSt ct s st && chkSs ct r sts
  | _, _ => false
end

/-! ### what a statement promises -/
section
variable {P : Pm} {ct : Ct} {X : Cx} {k : Nat}
def EndOk (P : Pm) (K : PySem.W.Frag) (O0 : List Addr) (H0 : Hp) (O : List Addr) (H : Hp) (D : Ends) : Fl → Prop
  | .nx ρ' => ∀ O' σ' H', Sim K P.w P.iw O0 H0 O' H' σ' ρ' → Kp O H O' H' → D.nx σ' H'
  | .bk ρ' => ∀ O' σ' H', Sim K P.w P.iw O0 H0 O' H' σ' ρ' → Kp O H O' H' → D.bk σ' H'
  | .rt d => ∀ v H', Rp K (hid O0 H') v d → Ext P.w H0 H' → D.rt v H'
theorem EndOk.mono {K : PySem.W.Frag} {O0 : List Addr} {H0 : Hp} {O O1 : List Addr} {H H1 : Hp} {D : Ends} {f : Fl} (h : EndOk P K O0 H0 O H D f) (kp : Kp O H O1 H1) : EndOk P K O0 H0 O1 H1 D f := by
  cases f with
  | nx ρ' => exact fun O' σ' H' S q => h O' σ' H' S (kp.trans q)
  | bk ρ' => exact fun O' σ' H' S q => h O' σ' H' S (kp.trans q)
  | rt d => exact h
def tS (P : Pm) (K : PySem.W.Frag) (r : Env → W Fl) : TS := fun D σ H => ∃ O0 H0 O ρ R, Sim K P.w P.iw O0 H0 O H σ ρ ∧ r ρ R ∧ ∀ f, R f → EndOk P K O0 H0 O H D f
theorem ps_imp {st : Stmt} {t t' : TS} (h : PS X st t') (q : ∀ D σ H, t D σ H → t' D σ H) : PS X st t := ⟨fun pins s σ H D I z => h.run pins s σ H D I (q D σ H z)⟩
theorem ps_impL {st : Stmt} {t t' : TS} (h : PS X st t') (q : ∀ D σ H, σ.length = X.N.length → t D σ H → t' D σ H) : PS X st t := ⟨fun pins s σ H D I z => h.run pins s σ H D I (q D σ H I.len z)⟩
theorem pss_imp {st : List Stmt} {t t' : TS} (h : PSs X st t') (q : ∀ D σ H, t D σ H → t' D σ H) : PSs X st t := ⟨fun pins s σ H D I z => h.run pins s σ H D I (q D σ H z)⟩
abbrev Pm.ex (P : Pm) (c : S) (ρ : Env) : W Fl := PV.ex wM P.C P.F P.G c ρ
abbrev Pm.exs (P : Pm) (c : Ss) (ρ : Env) : W Fl := PV.exs wM P.C P.F P.G c ρ
theorem Sim.iwl {K : PySem.W.Frag} {w : Wp} {iw : Nat} {O0 O : List Addr} {H0 H : Hp} {σ : L2.St} {ρ : Env} (S : Sim K w iw O0 H0 O H σ ρ) : ∀ t, w = some t → iw < ρ.length := fun t ht => (List.getElem?_eq_some_iff.mp (S.wS t ht).2).1
theorem frz_len {vs : List Nat} {ρ : Env} : (frz vs ρ).length = ρ.length := by simp [frz]

/-! name = value -/
theorem tS_asg {i : Nat} {e : E} (hi : i ≠ P.iw) {D : Ends} {σ : L2.St} {H : Hp} (h : tS P X.K (P.ex (.asg i e)) D σ H) : tAsg (tE P X.K e) (gName i) D σ H := by
  obtain ⟨O0, H0, O, ρ, R, S, ev, q⟩ := h
  have ev : P.ev e (frz (esc false e) ρ) fun d => R (.nx ((frz (esc false e) ρ).set i (slotOf e d))) := by unfold Pm.ex PV.ex at ev; exact ev
  obtain ⟨O1, S1, k1, n1⟩ := S.frz (esc false e)
  refine ⟨O0, H0, O1, _, _, S1, n1, ev, fun d v H' hR e1 res => ?_⟩
  obtain ⟨O2, S2, k2⟩ := S1.push e1 res S1.iwl
  by_cases hil : i < (frz (esc false e) ρ).length
  · have S3 := Sim.move (us := []) (ss := []) S2 S1.len hil hi S1.iwl
    rw [List.append_nil, List.append_nil] at S3
    exact q _ hR O2 _ H' S3 (k1.trans k2)
  · have z1 : σ.set i (some v) = σ := List.set_eq_of_length_le (by rw [S1.len]; omega)
    have z2 : (frz (esc false e) ρ).set i (slotOf e d) = frz (esc false e) ρ := List.set_eq_of_length_le (by omega)
    rw [z2] at hR
    have S3 := Sim.take S2 S1.len S1.iwl
    have q := q _ hR O2 σ H' S3 (k1.trans k2)
    show D.nx (σ.set i (some v)) H'
    rw [z1]
    exact q
/-! several values -/
def slots : Es → List D → Env
  | .cons e es, d :: ds => slotOf e d :: slots es ds
  | _, _ => []
def tEt (P : Pm) (K : PySem.W.Frag) (c : Es) : TA := fun σ H Q => ∃ O0 H0 O ρ R us ss, Sim K P.w P.iw O0 H0 O H (σ ++ us) (ρ ++ ss) ∧ σ.length = ρ.length ∧ (∀ t, P.w = some t → P.iw < ρ.length) ∧ NoOw (escs c) ρ ∧ P.evs c ρ R ∧
  ∀ ds vs O' H', R ds → Sim K P.w P.iw O0 H0 O' H' (σ ++ (us ++ vs.map some)) (ρ ++ (ss ++ slots c ds)) → Kp O H O' H' → vs.length = c.len → ds.length = c.len → Q vs H'
theorem sEt (g : Gd P ct X k) : ∀ {cs : Es} {xs : List Expr}, chkEs ct cs xs = true → PA X xs (tEt P X.K cs)
  | .nil, [], _ => pa_nil.imp fun σ H Q q => by
    obtain ⟨O0, H0, O, ρ, R, us, ss, S, hl, hw, es, ev, q⟩ := q
    have ev : R [] := by unfold Pm.evs PV.evs at ev; exact ev
    exact q [] [] O H ev (by simpa [slots] using S) (Kp.refl _ _) rfl rfl
  | .nil, _ :: _, h => by unfold chkEs at h; cases h
  | .cons c cs, [], h => by unfold chkEs at h; cases h
  | .cons c cs, x :: xs, h => by
    unfold chkEs at h
    rw [Bool.and_eq_true, Bool.and_eq_true] at h
    obtain ⟨h1, h2, h3⟩ := h
    refine (pa_cons (sE c g h2).1 (sEt g h3) (star_cons h1)).imp fun σ H Q q => ?_
    obtain ⟨O0, H0, O, ρ, R, us, ss, S, hl, hw, es, ev, q⟩ := q
    have es : NoOw (esc false c ++ escs cs) ρ := by simpa [escs] using es
    have ev : P.ev c ρ fun d => P.evs cs ρ fun ds => R (d :: ds) := by unfold Pm.evs PV.evs at ev; exact ev
    refine ⟨O0, H0, O, ρ, _, S.take hl hw, noOw_l es, ev, fun d v H1 hd e1 res => ?_⟩
    obtain ⟨O1, S1, k1⟩ := S.push e1 res (fun t ht => by rw [List.length_append]; have := hw t ht; omega)
    rw [List.append_assoc, List.append_assoc] at S1
    refine ⟨O0, H0, O1, ρ, _, us ++ [some v], ss ++ [slotOf c d], S1, hl, hw, noOw_r es, hd, fun ds vs O' H' hR S2 k2 hv hd2 => ?_⟩
    refine q (d :: ds) (v :: vs) O' H' hR ?_ (k1.trans k2) (by simp [hv, Es.len]) (by simp [hd2, Es.len])
    simpa [slots, List.append_assoc] using S2
def setVs : List Nat → List V → L2.St → L2.St
  | i :: is, v :: vs, σ => setVs is vs (σ.set i (some v))
  | _, _, σ => σ
theorem setVs_sim {K : PySem.W.Frag} {w : Wp} {iw : Nat} {O0 O : List Addr} {H0 H : Hp} : ∀ {is : List Nat} {es : Es} {ds : List D} {vs : List V} {σ : L2.St} {ρ ρ' : Env}, Sim K w iw O0 H0 O H (σ ++ vs.map some) (ρ ++ slots es ds) → σ.length = ρ.length → (∀ t, w = some t → iw < ρ.length) → (∀ i ∈ is, i ≠ iw ∧ i < ρ.length) →
    vs.length = ds.length → setAll is es ds ρ = some ρ' → Sim K w iw O0 H0 O H (setVs is vs σ) ρ'
  | [], .nil, [], vs, σ, ρ, ρ', S, hl, hw, hi, hv, h => by
    unfold setAll at h
    cases h
    have : vs = [] := by simpa using hv
    subst this
    simpa [setVs, slots] using S
  | i :: is, .cons e es, d :: ds, [], σ, ρ, ρ', S, hl, hw, hi, hv, h => by cases hv
  | i :: is, .cons e es, d :: ds, v :: vs, σ, ρ, ρ', S, hl, hw, hi, hv, h => by
    unfold setAll at h
    obtain ⟨h1, h2⟩ := hi i (by simp)
    have S2 := Sim.move (v := some v) (s := slotOf e d) S hl h2 h1 hw
    exact setVs_sim (is := is) (es := es) (ds := ds) (vs := vs) (σ := σ.set i (some v)) (ρ := ρ.set i (slotOf e d)) S2 (by simp [hl]) (by simpa using hw) (fun j hj => by simpa using hi j (by simp [hj])) (by simpa using hv) h
  | [], .nil, _ :: _, _, _, _, _, _, _, _, _, _, h => by unfold setAll at h; cases h
  | [], .cons _ _, _, _, _, _, _, _, _, _, _, _, h => by unfold setAll at h; cases h
  | _ :: _, .nil, _, _, _, _, _, _, _, _, _, _, h => by unfold setAll at h; cases h
  | _ :: _, .cons _ _, [], _, _, _, _, _, _, _, _, _, h => by unfold setAll at h; cases h
/-- the values stored, the pair itself aside -/
def tPN (is : List Nat) (ta : TA) : TS := fun D σ H => ta σ H fun vs H1 => vs.length = is.length ∧ ∀ H2, (H2 = H1 ∨ ∃ p, H1 p = none ∧ H2 = upd H1 p (.tup vs)) → D.nx (setVs is vs σ) H2
theorem pgs_names (g : Gd P ct X k) : ∀ {is : List Nat} {ts : List Expr}, chkNs ct is ts = true → PGs X ts (fun vs σ H Q => vs.length = is.length ∧ Q (setVs is vs σ) H) ∧ (assignEach ts X.env).findIdx? (·.1) = none ∧ (assignEach ts X.env).length = is.length
  | [], [], _ => ⟨pgs_imp pgs_nil fun v σ H Q q => by
    obtain ⟨h1, h2⟩ := q
    have : v = [] := by simpa using h1
    subst this
    exact ⟨rfl, h2⟩, rfl, rfl⟩
  | [], _ :: _, h => by cases h
  | _ :: _, [], h => by cases h
  | i :: is, t :: ts, h => by
    unfold chkNs at h
    rw [Bool.and_eq_true] at h
    obtain ⟨h1, h2⟩ := h
    cases hv : vNameP t with
    | none => rw [hv] at h1; cases h1
    | some q =>
      obtain ⟨x, p⟩ := q
      rw [hv] at h1
      obtain rfl := vNameP_eq hv
      unfold chkN at h1
      simp only [Bool.and_eq_true, beq_iff_eq] at h1
      obtain ⟨k1, k2, k3⟩ := h1
      obtain ⟨l, hf⟩ := g.sto x k2
      obtain ⟨r1, r2, r3⟩ := pgs_names g h2
      refine ⟨pgs_imp (pgs_cons (pg_name (by rw [g.hN]; exact g.nd) (by rw [g.hN]; exact k1) l hf) r1 rfl) fun v σ H Q q => ?_, ?_, ?_⟩
      · obtain ⟨h1, h2⟩ := q
        cases v with
        | nil => cases h1
        | cons v vs => exact ⟨v, vs, rfl, by simpa using h1, h2⟩
      · rw [show assignEach (Expr.Name x p :: ts) X.env = (false, assign (.Name x p) X.env) :: assignEach ts X.env from rfl, List.findIdx?_cons, r2]
        rfl
      · rw [show assignEach (Expr.Name x p :: ts) X.env = (false, assign (.Name x p) X.env) :: assignEach ts X.env from rfl, List.length_cons, r3]
        rfl
theorem ps_tupN (g : Gd P ct X k) {is : List Nat} {cs : Es} {ts vs : List Expr} {kt k2 : Nat} {p p2 pos : Pos} (hn : chkNs ct is ts = true) (hw : swappedStores [.Tuple ts kt p] (.Tuple vs k2 p2) X.env = pure none) (ha : PA X vs (tEt P X.K cs)) (hl : cs.len ≤ 1000) :
    PS X (.Assign [.Tuple ts kt p] (.Tuple vs k2 p2) pos) (tPN is (tEt P X.K cs)) := by
  obtain ⟨r1, r2, r3⟩ := pgs_names g hn
  refine ps_imp (ps_asg (pe_tup ha) (pg_tup g.calm r1 rfl r2) rfl hw rfl) fun D σ H q => ?_
  obtain ⟨O0, H0, O, ρ, R, us, ss, S, hl2, hw, es, ev, q⟩ := q
  refine ⟨O0, H0, O, ρ, R, us, ss, S, hl2, hw, es, ev, fun ds vs O' H' hR S2 kp hv hd => ?_⟩
  obtain ⟨q1, q2⟩ := q ds vs O' H' hR S2 kp hv hd
  refine ⟨by rw [hv, sizeLine_eq]; omega, fun a ha => ⟨a, vs, rfl, SqT.of (by simp [upd]), by rw [q1, r3], q1, q2 _ (.inr ⟨a, ha, rfl⟩)⟩⟩
theorem nodup_of : ∀ {is : List Nat}, nodupB is = true → is.Nodup
  | [], _ => List.nodup_nil
  | i :: is, h => by
    unfold nodupB at h
    rw [Bool.and_eq_true] at h
    exact List.nodup_cons.mpr ⟨by simpa using h.1, nodup_of h.2⟩
/-- several names stored at once -/
theorem ps_names (g : Gd P ct X k) (hk : ct.sc.kind = .function) {is : List Nat} {cs : Es} {ts vs : List Expr} {kt k2 : Nat} {p p2 pos : Pos} {r : Option (List Str)} (hnd : nodupB is = true) (hn : chkNs ct is ts = true) (hl : cs.len ≤ 1000) (hc : chkEs ct cs vs = true) (hcl : cs.len = is.length)
    (hs : swpB ct.sc ts vs = some r) (hp : parOk ct is ts r = true) : PS X (.Assign [.Tuple ts kt p] (.Tuple vs k2 p2) pos) (tPN is (tEt P X.K cs)) := by
  have hw : swappedStores [.Tuple ts kt p] (.Tuple vs k2 p2) X.env = pure r := swp_eq g.hsc hk hs
  cases r with
  | none => exact ps_tupN g hn hw (sEt g hc) hl
  | some ns =>
    unfold parOk at hp
    simp only [Bool.and_eq_true] at hp
    obtain ⟨⟨hlen, hloc⟩, hns⟩ := hp
    have nd := nodup_of hnd
    have hvl := (chkEs_len (env := X.env) hc).1
    rcases is with _ | ⟨i, _ | ⟨j, _ | ⟨l, _ | ⟨m, is⟩⟩⟩⟩
    · simp at hlen
    · simp at hlen
    · rcases ts with _ | ⟨t1, _ | ⟨t2, _ | ⟨t3, ts⟩⟩⟩
      · cases hn
      · unfold chkNs at hn; simp [chkNs] at hn
      · rcases vs with _ | ⟨v1, _ | ⟨v2, _ | ⟨v3, vs⟩⟩⟩
        · simp [hcl] at hvl
        · simp [hcl] at hvl
        · unfold chkNs at hn
          unfold chkNs at hn
          rw [Bool.and_eq_true, Bool.and_eq_true] at hn
          obtain ⟨h1, h2, _⟩ := hn
          cases e1 : vNameP t1 with
          | none => rw [e1] at h1; cases h1
          | some q1 =>
            cases e2 : vNameP t2 with
            | none => rw [e2] at h2; cases h2
            | some q2 =>
              obtain ⟨x, px⟩ := q1
              obtain ⟨y, py⟩ := q2
              rw [e1] at h1
              rw [e2] at h2
              simp only [List.map_cons, List.map_nil, e1, e2, List.all_cons, List.all_nil, Bool.and_true, Bool.and_eq_true, beq_iff_eq] at hloc
              have hns2 : ns = [x, y] := by
                have := beq_iff_eq.mp hns
                rw [this]
                simp [e1, e2]
              obtain rfl := vNameP_eq e1
              obtain rfl := vNameP_eq e2
              subst hns2
              unfold chkN at h1 h2
              simp only [Bool.and_eq_true, beq_iff_eq] at h1 h2
              refine ps_imp (ps_par g.calm (by rw [g.hN]; exact g.nd) (by rw [g.hN]; exact h1.1) (by rw [g.hN]; exact h2.1) (by simpa using nd) (by rw [g.hsc]; exact hloc.1) (by rw [g.hsc]; exact hloc.2) (sEt g hc) hw rfl) fun D σ H q => ?_
              obtain ⟨O0, H0, O, ρ, R, us, ss, S, hl2, hw, es, ev, q⟩ := q
              refine ⟨O0, H0, O, ρ, R, us, ss, S, hl2, hw, es, ev, fun ds vs O' H' hR S2 kp hv hd => ?_⟩
              obtain ⟨q1, q2⟩ := q ds vs O' H' hR S2 kp hv hd
              rcases vs with _ | ⟨a, _ | ⟨b, _ | ⟨c, vs⟩⟩⟩
              · cases q1
              · cases q1
              · exact ⟨a, b, rfl, q2 H' (.inl rfl)⟩
              · cases q1
        · simp [hcl] at hvl
      · unfold chkNs at hn; simp [chkNs] at hn
    · rcases ts with _ | ⟨t1, _ | ⟨t2, _ | ⟨t3, _ | ⟨t4, ts⟩⟩⟩⟩
      · cases hn
      · unfold chkNs at hn; simp [chkNs] at hn
      · unfold chkNs at hn; simp [chkNs] at hn
      · rcases vs with _ | ⟨v1, _ | ⟨v2, _ | ⟨v3, _ | ⟨v4, vs⟩⟩⟩⟩
        · simp [hcl] at hvl
        · simp [hcl] at hvl
        · simp [hcl] at hvl
        · unfold chkNs at hn
          unfold chkNs at hn
          unfold chkNs at hn
          rw [Bool.and_eq_true, Bool.and_eq_true, Bool.and_eq_true] at hn
          obtain ⟨h1, h2, h3, _⟩ := hn
          cases e1 : vNameP t1 with
          | none => rw [e1] at h1; cases h1
          | some q1 =>
            cases e2 : vNameP t2 with
            | none => rw [e2] at h2; cases h2
            | some q2 =>
              cases e3 : vNameP t3 with
              | none => rw [e3] at h3; cases h3
              | some q3 =>
                obtain ⟨x, px⟩ := q1
                obtain ⟨y, py⟩ := q2
                obtain ⟨z, pz⟩ := q3
                rw [e1] at h1
                rw [e2] at h2
                rw [e3] at h3
                simp only [List.map_cons, List.map_nil, e1, e2, e3, List.all_cons, List.all_nil, Bool.and_true, Bool.and_eq_true, beq_iff_eq] at hloc
                have hns2 : ns = [x, y, z] := by
                  have := beq_iff_eq.mp hns
                  rw [this]
                  simp [e1, e2, e3]
                obtain rfl := vNameP_eq e1
                obtain rfl := vNameP_eq e2
                obtain rfl := vNameP_eq e3
                subst hns2
                unfold chkN at h1 h2 h3
                simp only [Bool.and_eq_true, beq_iff_eq] at h1 h2 h3
                simp only [List.nodup_cons, List.mem_cons, List.not_mem_nil, or_false, not_or] at nd
                refine ps_imp (ps_par3 g.calm (by rw [g.hN]; exact g.nd) (by rw [g.hN]; exact h1.1) (by rw [g.hN]; exact h2.1) (by rw [g.hN]; exact h3.1) nd.1.1 nd.1.2 nd.2.1 (by rw [g.hsc]; exact hloc.1) (by rw [g.hsc]; exact hloc.2.1) (by rw [g.hsc]; exact hloc.2.2) (sEt g hc) hw rfl) fun D σ H q => ?_
                obtain ⟨O0, H0, O, ρ, R, us, ss, S, hl2, hw, es, ev, q⟩ := q
                refine ⟨O0, H0, O, ρ, R, us, ss, S, hl2, hw, es, ev, fun ds vs O' H' hR S2 kp hv hd => ?_⟩
                obtain ⟨q1, q2⟩ := q ds vs O' H' hR S2 kp hv hd
                rcases vs with _ | ⟨a, _ | ⟨b, _ | ⟨c, _ | ⟨d, vs⟩⟩⟩⟩
                · cases q1
                · cases q1
                · cases q1
                · exact ⟨a, b, c, rfl, q2 H' (.inl rfl)⟩
                · cases q1
        · simp [hcl] at hvl
      · unfold chkNs at hn; simp [chkNs] at hn
    · simp at hlen
theorem setAll_len : ∀ {is : List Nat} {es : Es} {ds : List D} {ρ ρ' : Env}, setAll is es ds ρ = some ρ' → is.length = es.len
  | [], .nil, [], _, _, _ => rfl
  | i :: is, .cons e es, d :: ds, ρ, ρ', h => by
    unfold setAll at h
    simp [Es.len, setAll_len h]
  | [], .nil, _ :: _, _, _, h => by unfold setAll at h; cases h
  | [], .cons _ _, _, _, _, h => by unfold setAll at h; cases h
  | _ :: _, .nil, _, _, _, h => by unfold setAll at h; cases h
  | _ :: _, .cons _ _, [], _, _, h => by unfold setAll at h; cases h
theorem tS_asgp {is : List Nat} {es : Es} (hi : ∀ i ∈ is, i ≠ P.iw) {D : Ends} {σ : L2.St} {H : Hp} (hN : ∀ i ∈ is, i < σ.length) (h : tS P X.K (P.ex (.asgp is es)) D σ H) : tPN is (tEt P X.K es) D σ H := by
  obtain ⟨O0, H0, O, ρ, R, S, ev, q⟩ := h
  have ev : P.evs es (frz (escs es) ρ) fun ds => wM.bind (wM.lift (setAll is es ds (frz (escs es) ρ))) (fun ρ' => wM.pure (.nx ρ')) R := by unfold Pm.ex PV.ex at ev; exact ev
  obtain ⟨O1, S1, k1, n1⟩ := S.frz (escs es)
  refine ⟨O0, H0, O1, _, _, [], [], by simpa using S1, S1.len, S1.iwl, n1, ev, fun ds vs O' H' hR S2 k2 hv hd => ?_⟩
  obtain ⟨ρ', hset, hR⟩ := wbind hR
  rw [List.nil_append, List.nil_append] at S2
  refine ⟨by rw [hv, ← setAll_len hset], fun H2 h2 => ?_⟩
  have ex2 : Ext P.w H' H2 := by
    rcases h2 with rfl | ⟨p, hp, rfl⟩
    · exact Ext.refl S2.wok
    · exact Ext.new S2.wok hp
  have S3 := S2.ext ex2
  exact q _ hR O' _ H2 (setVs_sim S3 S1.len S1.iwl (fun i hm => ⟨hi i hm, by rw [← S1.len]; exact hN i hm⟩) (by rw [hv, hd]) hset) ((k1.trans k2).trans (S2.kp ex2))
end
end PV

set_option maxHeartbeats 4000000
/-! PV: every statement of the checked form. -/
namespace PV
open PySem L2 RZ

section
variable {P : Pm} {ct : Ct} {X : Cx} {k : Nat}
theorem own_at {K : PySem.W.Frag} {w : Wp} {iw : Nat} {O0 O : List Addr} {H0 H : Hp} {σ : L2.St} {ρ : Env} (S : Sim K w iw O0 H0 O H σ ρ) {i : Nat} {d : D} (h : getO ρ i = some d) : ∃ p ds vs, σ[i]? = some (some (.ref p)) ∧ p ∈ O ∧ d = .list ds ∧ H p = some (.lst vs) ∧ Rps K (hid O H) vs ds := by
  obtain ⟨p, e1, hp, ds, vs, e2, hH, r⟩ := S.slot i _ (getO_ow h)
  exact ⟨p, ds, vs, join_some e1, hp, e2, hH, r⟩
theorem pe_v (g : Gd P ct X k) {i : Nat} {o : Expr} (h : chkV ct i o = true) : ∃ x p, o = .Name x p ∧ PE X o (tVar i) := by
  unfold chkV at h
  cases hv : vName o with
  | none => rw [hv] at h; cases h
  | some x =>
    rw [hv] at h
    obtain ⟨p, rfl⟩ := vName_eq hv
    exact ⟨x, p, rfl, pe_nm g h⟩
/-- a list that stays a slot's own, from heap to heap -/
theorem own_ext {K : PySem.W.Frag} {w : Wp} {iw : Nat} {O0 O : List Addr} {H0 H H' : Hp} {σ : L2.St} {ρ : Env} (S : Sim K w iw O0 H0 O H σ ρ) (e : Ext w H H') {p : Addr} {vs : List V} (h : H p = some (.lst vs)) : H' p = some (.lst vs) :=
  e.1 p _ (fun z => by
    obtain ⟨kvs, q⟩ := is_dK S.wok z
    rw [h] at q
    cases q) h
theorem dApp_some {d x y : D} (h : dApp d x = some y) : ∃ xs, x = .list xs ∧ xs.length < LINE ∧ y = .list (xs ++ [d]) := by
  cases x <;> simp [dApp] at h
  exact ⟨_, rfl, h.1, h.2.symm⟩
theorem dIns_some {d x y : D} (h : dIns0 d x = some y) : ∃ xs, x = .list xs ∧ xs.length < LINE ∧ y = .list (d :: xs) := by
  cases x <;> simp [dIns0] at h
  exact ⟨_, rfl, h.1, h.2.symm⟩
theorem dExt_some {d x y : D} (h : dExt d x = some y) : ∃ xs ys, x = .list xs ∧ d = .list ys ∧ xs.length + ys.length ≤ LINE ∧ y = .list (xs ++ ys) := by
  cases x <;> simp [dExt] at h
  cases d <;> simp at h
  exact ⟨_, _, rfl, rfl, h.1, h.2.symm⟩
theorem dPop_some {x : D} {y : D × D} (h : dPop x = some y) : ∃ xs, x = .list xs ∧ xs[xs.length - 1]? = some y.1 ∧ y.2 = .list xs.dropLast := by
  cases x <;> simp only [dPop] at h <;> try (cases h; done)
  rename_i xs
  cases e : xs[xs.length - 1]? with
  | none => rw [e] at h; cases h
  | some z => rw [e] at h; cases h; exact ⟨_, rfl, e, rfl⟩
theorem dSet_some {j d x y : D} {xs : List D} (hx : x = .list xs) (h : dSet j d x = some y) : ∃ i n, j = .int i ∧ ixN xs.length i = some n ∧ y = .list (xs.set n d) := by
  subst hx
  cases j <;> simp only [dSet] at h <;> try (cases h; done)
  rename_i i
  cases e : ixN xs.length i with
  | none => rw [e] at h; cases h
  | some n => rw [e] at h; cases h; exact ⟨_, _, rfl, e, rfl⟩
/-! xs.m(..) -/
theorem q_app {i : Nat} {e : E} {D : Ends} {σ : L2.St} {H : Hp} (h : tS P X.K (P.ex (.app i e)) D σ H) : tDrop (tBM X.K "list" rAppend (tVar i) (tCons (tE P X.K e) tNil)) D σ H := by
  obtain ⟨O0, H0, O, ρ, R, S, ev, q⟩ := h
  obtain ⟨O1, S1, k1, n1⟩ := S.frz (esc false e)
  have ev : wM.bind (wM.lift (getO (frz (esc false e) ρ) i)) (fun x => wM.bind (PV.ev wM P.C P.F P.G e (frz (esc false e) ρ)) fun d => wM.bind (wM.lift (dApp d x)) fun y => wM.pure (.nx ((frz (esc false e) ρ).set i (.ow y)))) R := by unfold Pm.ex PV.ex at ev; exact ev
  obtain ⟨x, hx, ev⟩ := wbind ev
  obtain ⟨p, ds, vs, e1, hp, rfl, hH, r⟩ := own_at S1 hx
  refine ⟨.ref p, e1, .inl ⟨rfl, vs, SqL.of hH⟩, O0, H0, O1, _, _, S1, n1, ev, fun d v H' hd e2 res => ?_⟩
  obtain ⟨y, hy, hR⟩ := wbind hd
  obtain ⟨xs, e3, hl, rfl⟩ := dApp_some hy
  cases e3
  have S2 := S1.ext e2
  have hH' := own_ext S1 e2 hH
  have r' := r.mono (e2.hid S1.wo)
  obtain ⟨S3, k3⟩ := S2.setMut (getO_ow hx) e1 (r'.append (.cons res.1 .nil))
  exact ⟨p, vs, v, rfl, rfl, hH', by rw [r.length, ← line_eq]; exact hl, q _ hR O1 σ _ S3 ((k1.trans (S1.kp e2)).trans k3)⟩
theorem q_ins {i : Nat} {e : E} {D : Ends} {σ : L2.St} {H : Hp} (h : tS P X.K (P.ex (.ins0 i e)) D σ H) : tDrop (tBM X.K "list" (fun x vs H Q => ∃ (l : Addr) (xs : List V) (i : Int) (y : V), x = .ref l ∧ vs = [.int i, y] ∧ H l = some (.lst xs) ∧ xs.length < sizeLine ∧ 0 ≤ i ∧ i < 2 ^ 63 ∧
    Q .non (upd H l (.lst (xs.take i.toNat ++ [y] ++ xs.drop i.toNat)))) (tVar i) (tCons (tC (.int 0)) (tCons (tE P X.K e) tNil))) D σ H := by
  obtain ⟨O0, H0, O, ρ, R, S, ev, q⟩ := h
  obtain ⟨O1, S1, k1, n1⟩ := S.frz (esc false e)
  have ev : wM.bind (wM.lift (getO (frz (esc false e) ρ) i)) (fun x => wM.bind (PV.ev wM P.C P.F P.G e (frz (esc false e) ρ)) fun d => wM.bind (wM.lift (dIns0 d x)) fun y => wM.pure (.nx ((frz (esc false e) ρ).set i (.ow y)))) R := by unfold Pm.ex PV.ex at ev; exact ev
  obtain ⟨x, hx, ev⟩ := wbind ev
  obtain ⟨p, ds, vs, e1, hp, rfl, hH, r⟩ := own_at S1 hx
  refine ⟨.ref p, e1, .inl ⟨rfl, vs, SqL.of hH⟩, O0, H0, O1, _, _, S1, n1, ev, fun d v H' hd e2 res => ?_⟩
  obtain ⟨y, hy, hR⟩ := wbind hd
  obtain ⟨xs, e3, hl, rfl⟩ := dIns_some hy
  cases e3
  have S2 := S1.ext e2
  have hH' := own_ext S1 e2 hH
  have r' := r.mono (e2.hid S1.wo)
  obtain ⟨S3, k3⟩ := S2.setMut (getO_ow hx) e1 (.cons res.1 r')
  exact ⟨p, vs, 0, v, rfl, rfl, hH', by rw [r.length, ← line_eq]; exact hl, by omega, by omega, q _ hR O1 σ _ S3 ((k1.trans (S1.kp e2)).trans k3)⟩
theorem q_ext {i : Nat} {e : E} {D : Ends} {σ : L2.St} {H : Hp} (h : tS P X.K (P.ex (.ext i e)) D σ H) : tDrop (tBM X.K "list" rExtend (tVar i) (tCons (tE P X.K e) tNil)) D σ H := by
  obtain ⟨O0, H0, O, ρ, R, S, ev, q⟩ := h
  obtain ⟨O1, S1, k1, n1⟩ := S.frz (esc false e)
  have ev : wM.bind (wM.lift (getO (frz (esc false e) ρ) i)) (fun x => wM.bind (PV.ev wM P.C P.F P.G e (frz (esc false e) ρ)) fun d => wM.bind (wM.lift (dExt d x)) fun y => wM.pure (.nx ((frz (esc false e) ρ).set i (.ow y)))) R := by unfold Pm.ex PV.ex at ev; exact ev
  obtain ⟨x, hx, ev⟩ := wbind ev
  obtain ⟨p, ds, vs, e1, hp, rfl, hH, r⟩ := own_at S1 hx
  refine ⟨.ref p, e1, .inl ⟨rfl, vs, SqL.of hH⟩, O0, H0, O1, _, _, S1, n1, ev, fun d v H' hd e2 res => ?_⟩
  obtain ⟨y, hy, hR⟩ := wbind hd
  obtain ⟨xs, ys, e3, rfl, hl, rfl⟩ := dExt_some hy
  cases e3
  have S2 := S1.ext e2
  have hH' := own_ext S1 e2 hH
  have r' := r.mono (e2.hid S1.wo)
  cases res.1 with
  | @lst b zs _ hb rz =>
    obtain ⟨S3, k3⟩ := S2.setMut (getO_ow hx) e1 (r'.append rz)
    exact ⟨p, b, vs, zs, rfl, rfl, hH', hid_le _ _ _ _ hb, by rw [r.length, rz.length, ← line_eq]; exact hl, q _ hR O1 σ _ S3 ((k1.trans (S1.kp e2)).trans k3)⟩
theorem q_seti {i : Nat} {j e : E} {D : Ends} {σ : L2.St} {H : Hp} (h : tS P X.K (P.ex (.seti i j e)) D σ H) : tAsg (tE P X.K e) (gSub (tVar i) (tE P X.K j) rSetL) D σ H := by
  obtain ⟨O0, H0, O, ρ, R, S, ev, q⟩ := h
  obtain ⟨O1, S1, k1, n1⟩ := S.frz (esc false e ++ esc false j)
  have ev : wM.bind (wM.lift (getO (frz (esc false e ++ esc false j) ρ) i)) (fun x => wM.bind (PV.ev wM P.C P.F P.G e (frz (esc false e ++ esc false j) ρ)) fun d => wM.bind (PV.ev wM P.C P.F P.G j (frz (esc false e ++ esc false j) ρ)) fun z => wM.bind (wM.lift (dSet z d x)) fun y => wM.pure (.nx ((frz (esc false e ++ esc false j) ρ).set i (.ow y)))) R := by unfold Pm.ex PV.ex at ev; exact ev
  obtain ⟨x, hx, ev⟩ := wbind ev
  obtain ⟨p, ds, vs, e1, hp, rfl, hH, r⟩ := own_at S1 hx
  refine ⟨O0, H0, O1, _, _, S1, noOw_l n1, ev, fun d v H' hd e2 res => ⟨.ref p, e1, O0, H0, O1, _, _, S1.ext e2, noOw_r n1, hd, fun z v2 H2 hd e3 res2 => ?_⟩⟩
  obtain ⟨y, hy, hR⟩ := wbind hd
  obtain ⟨n, m, rfl, hn, rfl⟩ := dSet_some rfl hy
  have S2 := (S1.ext e2).ext e3
  have hH' := own_ext (S1.ext e2) e3 (own_ext S1 e2 hH)
  have r' := (r.mono (e2.hid S1.wo)).mono (e3.hid S1.wo)
  obtain ⟨S3, k3⟩ := S2.setMut (getO_ow hx) e1 (r'.set (res.1.mono (e3.hid S1.wo)) m)
  cases res2.1
  exact ⟨p, vs, n, m, rfl, rfl, hH', by rw [r.length]; exact hn, q _ hR O1 σ _ S3 ((k1.trans ((S1.kp e2).trans ((S1.ext e2).kp e3))).trans k3)⟩
theorem q_pop {i : Nat} {p : Pat} {D : Ends} {σ : L2.St} {H : Hp} (h : tS P X.K (P.ex (.popt p i)) D σ H) : tAsg (tBM0 X.K "list" rPop (tVar i)) (tG P X.K p) D σ H := by
  obtain ⟨O0, H0, O, ρ, R, S, ev, q⟩ := h
  have ev : wM.bind (wM.lift (getO ρ i)) (fun x => wM.bind (wM.lift (dPop x)) fun y => wM.bind (wM.lift (bindP p y.1 (ρ.set i (.ow y.2)))) fun ρ' => wM.pure (.nx ρ')) R := by unfold Pm.ex PV.ex at ev; exact ev
  obtain ⟨x, hx, ev⟩ := wbind ev
  obtain ⟨y, hy, ev⟩ := wbind ev
  obtain ⟨ρ', hb, hR⟩ := wbind ev
  obtain ⟨l, ds, vs, e1, hp, rfl, hH, r⟩ := own_at S hx
  obtain ⟨xs, e3, hd, e4⟩ := dPop_some hy
  cases e3
  rw [e4] at hb
  obtain ⟨u, hu, ru⟩ := r.getD hd
  obtain ⟨S3, k3⟩ := S.setMut (getO_ow hx) e1 r.dropLast
  refine ⟨.ref l, e1, .inl ⟨rfl, vs, SqL.of hH⟩, l, vs, u, rfl, rfl, hH, by rw [r.length]; exact hu, O0, H0, O, _, y.1, ρ', S3, ru.mono k3, hb, fun σ' S' _ => q _ hR O σ' _ S' k3⟩
theorem q_aug {i : Nat} {o : Op2} {e : E} {D : Ends} {σ : L2.St} {H : Hp} {f : Int → Int → Int} (hf : ∀ a b, dBin o (.int a) (.int b) = some (.int (f a b))) (hi : i ≠ P.iw) (h : tS P X.K (P.ex (.aug i o e)) D σ H) : tAug i (tE P X.K e) (ipI f) D σ H := by
  obtain ⟨O0, H0, O, ρ, R, S, ev, q⟩ := h
  obtain ⟨O1, S1, k1, n1⟩ := S.frz (esc false e)
  have ev : wM.bind (wM.lift (getV ρ i)) (fun x => wM.bind (PV.ev wM P.C P.F P.G e (frz (esc false e) ρ)) fun y => wM.bind (wM.lift (int? x)) fun a => wM.bind (wM.lift (int? y)) fun b => wM.bind (wM.lift (dBin o (.int a) (.int b))) fun z => wM.pure (.nx ((frz (esc false e) ρ).set i (.sh z)))) R := by unfold Pm.ex PV.ex at ev; exact ev
  obtain ⟨x, hx, ev⟩ := wbind ev
  obtain ⟨v, e1, b, _⟩ := S.var hx
  refine ⟨v, e1, O0, H0, O1, _, _, S1, n1, ev, fun d u H' hd e2 res => ?_⟩
  obtain ⟨a, ha, hd⟩ := wbind hd
  obtain ⟨c, hc, hd⟩ := wbind hd
  obtain ⟨z, hz, hR⟩ := wbind hd
  rw [hf] at hz
  cases hz
  rw [int_some ha] at b
  have r := res.1
  rw [int_some hc] at r
  cases r
  exact ⟨a, c, b.int, rfl, q _ hR O1 _ H' ((S1.ext e2).setSh (.int _) hi) (k1.trans (S1.kp e2))⟩
theorem q_asgt {p : Pat} {e : E} {D : Ends} {σ : L2.St} {H : Hp} (h : tS P X.K (P.ex (.asgt p e)) D σ H) : tAsg (tE P X.K e) (tG P X.K p) D σ H := by
  obtain ⟨O0, H0, O, ρ, R, S, ev, q⟩ := h
  obtain ⟨O1, S1, k1, n1⟩ := S.frz (esc false e)
  have ev : P.ev e (frz (esc false e) ρ) fun d => wM.bind (wM.lift (bindP p d (frz (esc false e) ρ))) (fun ρ' => wM.pure (.nx ρ')) R := by unfold Pm.ex PV.ex at ev; exact ev
  refine ⟨O0, H0, O1, _, _, S1, n1, ev, fun d v H' hd e2 res => ?_⟩
  obtain ⟨ρ', hb, hR⟩ := wbind hd
  exact ⟨O0, H0, O1, _, d, ρ', S1.ext e2, res.1, hb, fun σ' S' _ => q _ hR O1 σ' H' S' (k1.trans (S1.kp e2))⟩
theorem q_ret {e : E} {D : Ends} {σ : L2.St} {H : Hp} (h : tS P X.K (P.ex (.ret e)) D σ H) : tRet (tE P X.K e) D σ H := by
  obtain ⟨O0, H0, O, ρ, R, S, ev, q⟩ := h
  obtain ⟨O1, S1, k1, n1⟩ := S.frz (esc false e)
  have ev : P.ev e (frz (esc false e) ρ) fun d => R (.rt d) := by unfold Pm.ex PV.ex at ev; exact ev
  exact ⟨O0, H0, O1, _, _, S1, n1, ev, fun d v H' hR e2 res => q _ hR v H' (res.1.mono (hid_sub fun a ha => S1.sub a ha)) (S1.ent.trans e2)⟩
theorem q_ite {t : E} {a b : Ss} {D : Ends} {σ : L2.St} {H : Hp} (h : tS P X.K (P.ex (.ite t a b)) D σ H) : tIfS (tT P X.K t) (tS P X.K (P.exs a)) (tS P X.K (P.exs b)) D σ H := by
  obtain ⟨O0, H0, O, ρ, R, S, ev, q⟩ := h
  obtain ⟨O1, S1, k1, n1⟩ := S.frz (esc true t)
  have ev : P.ev t (frz (esc true t) ρ) fun x => wM.bind (wM.lift (bool? x)) (fun t' => if t' = true then P.exs a (frz (esc true t) ρ) else P.exs b (frz (esc true t) ρ)) R := by unfold Pm.ex PV.ex at ev; exact ev
  refine ⟨O0, H0, O1, _, _, S1, n1, ev, fun d H' hd e2 => ?_⟩
  obtain ⟨t', ht, hd⟩ := wbind hd
  refine ⟨t', ht, ?_⟩
  have kp := k1.trans (S1.kp e2)
  cases t' with
  | true => exact ⟨O0, H0, O1, _, R, S1.ext e2, hd, fun f hf => (q f hf).mono kp⟩
  | false => exact ⟨O0, H0, O1, _, R, S1.ext e2, hd, fun f hf => (q f hf).mono kp⟩
theorem q_cons {s : S} {r : Ss} {D : Ends} {σ : L2.St} {H : Hp} (h : tS P X.K (P.exs (.cons s r)) D σ H) : tSeq (tS P X.K (P.ex s)) (tS P X.K (P.exs r)) D σ H := by
  obtain ⟨O0, H0, O, ρ, R, S, ev, q⟩ := h
  have ev : P.ex s ρ fun f => (match f with
    | .nx ρ => PV.exs wM P.C P.F P.G r ρ
    | .rt d => wM.pure (.rt d)
    | .bk ρ => wM.pure (.bk ρ)) R := by unfold Pm.exs PV.exs at ev; exact ev
  refine ⟨O0, H0, O, ρ, _, S, ev, fun f hf => ?_⟩
  cases f with
  | nx ρ' => exact fun O' σ' H' S' kp => ⟨O0, H0, O', ρ', R, S', hf, fun f hf => (q f hf).mono kp⟩
  | rt d => exact q _ hf
  | bk ρ' => exact q _ hf
theorem q_for {p : Pat} {s : Src} {b : Ss} {D : Ends} {σ : L2.St} {H : Hp} (h : tS P X.K (P.ex (.for_ p s b)) D σ H) : tFor (tI P X.K true s) (tG P X.K p) (tS P X.K (P.exs b)) D σ H := by
  obtain ⟨O0, H0, O, ρ, R, S, ev, q⟩ := h
  obtain ⟨O1, S1, k1, n1⟩ := S.frz (escF s)
  have ev : P.evS s (frz (escF s) ρ) fun xs => forL wM (fun d ρ => wM.bind (wM.lift (bindP p d ρ)) fun ρ => P.exs b ρ) (frz (escF s) ρ) xs (frz (escF s) ρ) R := by unfold Pm.ex PV.ex at ev; exact ev
  refine ⟨O0, H0, O1, _, _, S1, n1, ev, fun ds J H1 hd hl e1 wk => ?_⟩
  have S2 := S1.ext e1
  have kp1 := k1.trans (S1.kp e1)
  refine ⟨fun i m σ' H' => ∃ O' ρ', Sim X.K P.w P.iw O0 H0 O' H' σ' ρ' ∧ Kp O1 H1 O' H' ∧ i + m = ds.length ∧ forL wM (fun d ρ => wM.bind (wM.lift (bindP p d ρ)) fun ρ => P.exs b ρ) (frz (escF s) ρ) (ds.drop i) ρ' R, ⟨ds.length, O1, _, S2, Kp.refl _ _, by omega, hd⟩, fun i m σ' H' hW => ?_⟩
  obtain ⟨O', ρ', S', kp', hm, hf⟩ := hW
  obtain ⟨w1, w2⟩ := wk O' H' ⟨S'.dom, kp', fun z => by cases z⟩ i
  by_cases hi : i < ds.length
  · have hget : ds[i]? = some ds[i] := List.getElem?_eq_getElem hi
    obtain ⟨go, yl⟩ := w1 _ hget
    rw [List.drop_eq_getElem_cons hi] at hf
    have hf : wM.bind (wM.lift (bindP p ds[i] ρ')) (fun ρ => P.exs b ρ) (fun f => (match f with
      | .nx ρ'' => forL wM (fun d ρ => wM.bind (wM.lift (bindP p d ρ)) fun ρ => P.exs b ρ) (frz (escF s) ρ) (ds.drop (i + 1)) (msk (frz (escF s) ρ) ρ'')
      | .rt d => wM.pure (.rt d)
      | .bk ρ'' => wM.pure (.nx (msk (frz (escF s) ρ) ρ''))) R) := by unfold forL at hf; exact hf
    obtain ⟨ρ1, hb, hf⟩ := wbind hf
    refine .inr ⟨go, fun σ3 H3 => ∃ O3 ρ3, Sim X.K P.w P.iw O0 H0 O3 H3 σ3 ρ3 ∧ Kp O1 H1 O3 H3 ∧ forL wM (fun d ρ => wM.bind (wM.lift (bindP p d ρ)) fun ρ => P.exs b ρ) (frz (escF s) ρ) (ds.drop (i + 1)) ρ3 R, fun σ3 H3 hN => ?_, fun x H'' hy => ?_⟩
    · obtain ⟨O3, ρ3, S3, kp3, hf3⟩ := hN
      exact ⟨m - 1, by omega, O3, ρ3, S3, kp3, by omega, hf3⟩
    · obtain ⟨le, rp⟩ := yl x H'' hy
      have e2 : Ext P.w H' H'' := Ext.of_le S'.wok le
      refine ⟨O0, H0, O', ρ', ds[i], ρ1, S'.ext e2, rp, hb, fun σ2 S2' _ => ⟨O0, H0, O', ρ1, _, S2', hf, fun f hf2 => ?_⟩⟩
      have kp2 := kp'.trans (S'.kp e2)
      cases f with
      | nx ρ'' => exact fun O3 σ3 H3 S3 kp3 => ⟨O3, _, S3.msk _, kp2.trans kp3, hf2⟩
      | bk ρ'' => exact fun O3 σ3 H3 S3 kp3 => q _ hf2 O3 σ3 H3 (S3.msk _) (kp1.trans (kp2.trans kp3))
      | rt d => exact q _ hf2
  · refine .inl ⟨w2 (by omega), ?_⟩
    rw [List.drop_eq_nil_of_le (by omega)] at hf
    have hf : R (.nx ρ') := by unfold forL at hf; exact hf
    exact q _ hf O' σ' H' S' (kp1.trans kp')
theorem q_whl {t : E} {b : Ss} {D : Ends} {σ : L2.St} {H : Hp} (h : tS P X.K (P.ex (.whl t b)) D σ H) : tWhile (tT P X.K t) (tS P X.K (P.exs b)) D σ H := by
  obtain ⟨O0, H0, O, ρ, R, S, ev, q⟩ := h
  obtain ⟨O1, S1, k1, n1⟩ := S.frz (esc true t)
  have ev : wWhl (whlStep wM (esc true t) (fun ρ => wM.bind (PV.ev wM P.C P.F P.G t ρ) fun x => wM.lift (bool? x)) (P.exs b) (frz (esc true t) ρ)) (frz (esc true t) ρ) R := by unfold Pm.ex PV.ex at ev; exact ev
  obtain ⟨J, ⟨n0, hJ⟩, step⟩ := ev
  refine ⟨fun m σ' H' => ∃ O' ρ', Sim X.K P.w P.iw O0 H0 O' H' σ' ρ' ∧ Kp O1 H O' H' ∧ NoOw (esc true t) ρ' ∧ J m ρ', ⟨n0, O1, _, S1, Kp.refl _ _, n1, hJ⟩, fun m σ' H' hW => ?_⟩
  obtain ⟨O', ρ', S', kp', no', hj⟩ := hW
  have st := step m ρ' hj
  have st : P.ev t ρ' fun x => wM.bind (wM.lift (bool? x)) (fun t' => if t' = true then wM.bind (P.exs b ρ') fun f => (match f with
      | .nx ρ'' => (wM.pure (Sum.inl (frz (esc true t) (msk (frz (esc true t) ρ) ρ''))) : W (Env ⊕ Fl))
      | .rt d => wM.pure (Sum.inr (.rt d))
      | .bk ρ'' => wM.pure (Sum.inr (.nx (msk (frz (esc true t) ρ) ρ'')))) else wM.pure (Sum.inr (.nx ρ'))) (fun r => match r with
      | Sum.inl ρ' => ∃ k, k < m ∧ J k ρ'
      | Sum.inr f => R f) := st
  refine ⟨O0, H0, O', ρ', _, S', no', st, fun d H1 hd e2 => ?_⟩
  obtain ⟨t', ht, hd⟩ := wbind hd
  refine ⟨t', ht, ?_⟩
  have kp2 := kp'.trans (S'.kp e2)
  cases t' with
  | false => exact q _ hd O' σ' H1 (S'.ext e2) (k1.trans kp2)
  | true =>
    refine ⟨fun σ3 H3 => ∃ k, k < m ∧ ∃ O' ρ', Sim X.K P.w P.iw O0 H0 O' H3 σ3 ρ' ∧ Kp O1 H O' H3 ∧ NoOw (esc true t) ρ' ∧ J k ρ', fun σ3 H3 hN => hN, O0, H0, O', ρ', _, S'.ext e2, hd, fun f hf => ?_⟩
    cases f with
    | nx ρ'' =>
      intro O3 σ3 H3 S3 kp3
      obtain ⟨k, hk, hJ2⟩ := hf
      obtain ⟨O4, S4, k4, n4⟩ := (S3.msk (frz (esc true t) ρ)).frz (esc true t)
      exact ⟨k, hk, O4, _, S4, (kp2.trans kp3).trans k4, n4, hJ2⟩
    | bk ρ'' => exact fun O3 σ3 H3 S3 kp3 => q _ hf O3 σ3 H3 (S3.msk _) (k1.trans (kp2.trans kp3))
    | rt d => exact q _ hf
end
end PV

set_option maxHeartbeats 4000000
/-! PV: every statement; defs. -/
namespace PV
open PySem L2 RZ

section
variable {P : Pm} {ct : Ct} {X : Cx} {k : Nat}
theorem hfew_ok {cpos : Pos} {e : Expr} {es : List Expr} {env : PySem.Env} (h1 : notStar e = true) (h2 : starEach es env = es.map fun x => (false, eval x env)) (hl : es.length < 20) : ((backTo cpos (starEach (e :: es) env)).all (fun x => !x.1) && (backToKw cpos (keywordEach [] env)).all (fun x => x.1.isSome)
      && decide ((e :: es).length + ([] : List Keyword).length + (if ([] : List Keyword).isEmpty then 0 else 1) < 30)) = true := by
  rw [star_cons h1, h2]
  have : decide ((e :: es).length + ([] : List Keyword).length + (if ([] : List Keyword).isEmpty then 0 else 1) < 30) = true := by
    refine decide_eq_true ?_
    show es.length + 1 + 0 + 0 < 30
    omega
  rw [this]
  simp [backTo, keywordEach, backToKw]
theorem sub_assign {o i : Expr} {pos : Pos} {env : PySem.Env} (h : vSli i = none) : ∀ v, assign (.Subscript o i pos) env v = (do
      let ov ← holding [v] (eval o env)
      let iv ← holding [v, ov] (eval i env)
      standAt pos
      holding [v, ov, iv] (setItem ov iv v)
      release [v, ov, iv] []) := fun v => by
  cases i <;> first | rfl | (simp [vSli] at h)
theorem swp_sub {t v : Expr} {env : PySem.Env} (h : vTupP t = none) (h2 : vLst t = none) : swappedStores [t] v env = pure none := by
  cases t <;> first
    | (simp [vTupP] at h; done)
    | (simp [vLst] at h2; done)
    | (cases v <;> rfl)
theorem swp_tup {t v : Expr} {env : PySem.Env} (h : isTupE v = false) : swappedStores [t] v env = pure none := by
  cases v with
  | Tuple _ _ _ => cases h
  | _ => cases t <;> rfl
theorem sole {t v : Expr} {l : Nat} {env : PySem.Env} (h : vNameP t = none) : swapsWithSole [t] v l env = pure false := sw_other h
mutual
theorem sSt (g : Gd P ct X k) (hk : ct.sc.kind = .function) (how : ct.own = ct.sc) (hp : PassesOwn (model X.prog X.w) X.A X.env X.xe) : ∀ (s : S) {st : Stmt}, chkSt ct s st = true → PS X st (tS P X.K (P.ex s))
  | .pass, st, hc => by
    unfold chkSt at hc
    have q : ∀ {D : Ends} {σ : L2.St} {H : Hp}, tS P X.K (P.ex .pass) D σ H → tNext D σ H := fun {D σ H} h => by
      obtain ⟨O0, H0, O, ρ, R, S, ev, q⟩ := h
      have ev : R (.nx ρ) := by unfold Pm.ex PV.ex at ev; exact ev
      exact q _ ev O σ H S (Kp.refl _ _)
    split at hc
    · exact ps_imp ps_pass fun D σ H h => q h
    · exact ps_imp ps_doc fun D σ H h => q h
    · cases hc
  | .asg i e, st, hc => by
    unfold chkSt at hc
    cases hv : vAsg st with
    | none => rw [hv] at hc; cases hc
    | some q =>
      obtain ⟨t, v, p⟩ := q
      rw [hv] at hc
      obtain rfl := vAsg_eq hv
      have hc : (match vNameP t with
        | some (x, q) => chkN ct i x && (chkE ct e v && (!(swB ct.sc x q v) || e.isComp))
        | none => false) = true := hc
      cases hn : vNameP t with
      | none => rw [hn] at hc; cases hc
      | some q =>
        obtain ⟨x, py⟩ := q
        rw [hn] at hc
        obtain rfl := vNameP_eq hn
        have hc : (chkN ct i x && (chkE ct e v && (!(swB ct.sc x py v) || e.isComp))) = true := hc
        rw [Bool.and_eq_true, Bool.and_eq_true] at hc
        obtain ⟨h1, h2, h3⟩ := hc
        unfold chkN at h1
        simp only [Bool.and_eq_true, beq_iff_eq, Bool.not_eq_true', beq_eq_false_iff_ne] at h1
        obtain ⟨k1, k2, k3⟩ := h1
        obtain ⟨l, hf⟩ := g.sto x k2
        have hiw : i ≠ P.iw := by rw [← g.hiw]; exact k3
        have hsw := sw_eq (env := X.env) (l := p.line) g.hsc hk (v := v) (x := x) (p := py)
        have hN : X.N[i]? = some x := by rw [g.hN]; exact k1
        cases hb : swB ct.sc x py v with
        | false =>
          rw [hb] at hsw
          exact ps_imp (ps_set (by rw [g.hN]; exact g.nd) hN l (sE e g h2).1 hsw hf) fun D σ H h => tS_asg hiw h
        | true =>
          rw [hb] at hsw h3
          have hl : X.env.scope.names.lookup x = some .local := by
            rw [g.hsc]
            cases v <;> simp only [swB] at hb <;> first
              | cases hb
              | (unfold swF at hb
                 simp only [Bool.and_eq_true, beq_iff_eq] at hb
                 exact hb.1.1)
          cases e with
          | comp own pt sr t elt =>
            have h0 := h2
            unfold chkE at h0
            cases hv : vLc1 v with
            | none => rw [hv] at h0; cases h0
            | some q =>
              obtain ⟨el, tg, it, ifs, scope⟩ := q
              rw [hv] at h0
              obtain ⟨ps, rfl⟩ := vLc1_eq hv
              simp only [Bool.and_eq_true] at h0
              obtain ⟨hb2, hp2, hs, hcp, ht, he⟩ := h0
              obtain ⟨hi, hff⟩ := sS sr false g hs
              exact ps_imp (set_comp g hN hl hsw hb2 (fun i hi => by simpa using List.all_eq_true.mp hp2 i hi) hi (hff X.env) (fun X' g' => snd_pat g' hcp)
                (fun X' g' => by
                  rcases chkT_eq ht with ⟨e1, e2⟩ | ⟨x, e2, hx⟩
                  · rw [e1, e2]; exact yes_ok
                  · rw [e2]; exact pts_one (sE t g' hx).2)
                (fun X' g' => (sE elt g' he).1)) fun D σ H h => tS_asg hiw h
          | comp2 own own1 pt sr t p1 s1 t1 elt =>
            have h0 := h2
            unfold chkE at h0
            cases hv : vLc2 v with
            | none => rw [hv] at h0; cases h0
            | some q =>
              obtain ⟨el, ⟨tg, it, ifs⟩, ⟨tg1, it1, ifs1⟩, scope⟩ := q
              rw [hv] at h0
              obtain ⟨ps, rfl⟩ := vLc2_eq hv
              simp only [Bool.and_eq_true] at h0
              obtain ⟨hb2, h1o, hp2, hp1, hs, hcp, ht, hs1, hcp1, ht1, he⟩ := h0
              obtain ⟨hi, hff⟩ := sS sr false g hs
              exact ps_imp (set_comp2 g hN hl hsw hb2 (fun i hi => by simpa using List.all_eq_true.mp h1o i hi) (fun i hi => by simpa using List.all_eq_true.mp hp2 i hi) (fun i hi => by simpa using List.all_eq_true.mp hp1 i hi) hi (hff X.env) (chkS_fsi hs1)
                (fun X' g' => snd_pat g' hcp)
                (fun X' g' => by
                  rcases chkT_eq ht with ⟨e1, e2⟩ | ⟨x, e2, hx⟩
                  · rw [e1, e2]; exact yes_ok
                  · rw [e2]; exact pts_one (sE t g' hx).2)
                (fun X' g' => (sS s1 false g' hs1).1) (fun X' g' => snd_pat g' hcp1)
                (fun X' g' => by
                  rcases chkT_eq ht1 with ⟨e1, e2⟩ | ⟨x, e2, hx⟩
                  · rw [e1, e2]; exact yes_ok
                  · rw [e2]; exact pts_one (sE t1 g' hx).2)
                (fun X' g' => (sE elt g' he).1)) fun D σ H h => tS_asg hiw h
          | _ => cases h3
  | .asgp is es, st, hc => by
    unfold chkSt at hc
    cases hv : vAsg st with
    | none => rw [hv] at hc; cases hc
    | some q =>
      obtain ⟨t, v, p⟩ := q
      rw [hv] at hc
      obtain rfl := vAsg_eq hv
      cases ht : vTupP t with
      | none => simp [ht] at hc
      | some q =>
        cases hvv : vTupP v with
        | none => simp [ht, hvv] at hc
        | some q2 =>
          obtain ⟨ts, kt, pt⟩ := q
          obtain ⟨vs, kv, pv⟩ := q2
          obtain rfl := vTupP_eq ht
          obtain rfl := vTupP_eq hvv
          have hc : (nodupB is && (chkNs ct is ts && (decide (es.len ≤ 1000) && (chkEs ct es vs && (es.len == is.length && (match swpB ct.sc ts vs with
            | some r => parOk ct is ts r
            | none => false)))))) = true := hc
          simp only [Bool.and_eq_true, decide_eq_true_eq, beq_iff_eq] at hc
          obtain ⟨h1, h2, h3, h4, h5, h6⟩ := hc
          cases hs : swpB ct.sc ts vs with
          | none => rw [hs] at h6; cases h6
          | some r =>
            rw [hs] at h6
            have hix : ∀ {is : List Nat} {ts : List Expr}, chkNs ct is ts = true → ∀ i ∈ is, i ≠ P.iw ∧ i < X.N.length := fun {is} => by
              induction is with
              | nil => intro ts _ i hi; cases hi
              | cons j is ih =>
                intro ts h i hi
                cases ts with
                | nil => cases h
                | cons t ts =>
                  unfold chkNs at h
                  rw [Bool.and_eq_true] at h
                  rcases List.mem_cons.mp hi with rfl | hi
                  · have h := h.1
                    cases hv : vNameP t with
                    | none => rw [hv] at h; cases h
                    | some q =>
                      obtain ⟨x, px⟩ := q
                      rw [hv] at h
                      have h : chkN ct i x = true := h
                      unfold chkN at h
                      simp only [Bool.and_eq_true, beq_iff_eq, Bool.not_eq_true', beq_eq_false_iff_ne] at h
                      refine ⟨by rw [← g.hiw]; exact h.2.2, ?_⟩
                      rw [g.hN]
                      exact (List.getElem?_eq_some_iff.mp h.1).1
                  · exact ih h.2 i hi
            have hall := hix h2
            exact ps_impL (ps_names g hk h1 h2 h3 h4 h5 hs h6) fun D σ H hlen h => tS_asgp (fun i hi => (hall i hi).1) (fun i hi => by rw [hlen]; exact (hall i hi).2) h
  | .asgt pt e, st, hc => by
    unfold chkSt at hc
    cases hv : vAsg st with
    | none => rw [hv] at hc; cases hc
    | some q =>
      obtain ⟨t, v, p⟩ := q
      rw [hv] at hc
      obtain rfl := vAsg_eq hv
      simp only [Bool.and_eq_true, Bool.or_eq_true, Bool.not_eq_true'] at hc
      obtain ⟨h1, h2, h3, h4⟩ := hc
      cases t with
      | Tuple es kk tp =>
        rcases h2 with h2 | h2
        · exact ps_imp (ps_asg (sE e g h4).1 (snd_pat g h3) (sole rfl) (swp_tup h2) rfl) fun D σ H h => q_asgt h
        · have hw : swappedStores [.Tuple es kk tp] v X.env = pure none := by
            cases hvv : vTupP v with
            | none =>
              unfold swpN at h2
              rw [hvv] at h2
              cases h2
            | some q2 =>
              obtain ⟨vs, kv, pv⟩ := q2
              obtain rfl := vTupP_eq hvv
              have h2 : ((swpB ct.sc es vs).isSome && ((swpB ct.sc es vs).bind id).isNone) = true := h2
              cases hs : swpB ct.sc es vs with
              | none => rw [hs] at h2; cases h2
              | some r =>
                cases r with
                | none => exact swp_eq g.hsc hk hs
                | some ns => rw [hs] at h2; cases h2
          exact ps_imp (ps_asg (sE e g h4).1 (snd_pat g h3) (sole rfl) hw rfl) fun D σ H h => q_asgt h
      | _ => cases h1
  | .aug i o e, st, hc => by
    unfold chkSt at hc
    cases hv : vAug st with
    | none => rw [hv] at hc; cases hc
    | some q =>
      obtain ⟨t, op, v⟩ := q
      rw [hv] at hc
      obtain ⟨pos, rfl⟩ := vAug_eq hv
      cases hn : vNameP t with
      | none => simp [hn] at hc
      | some q =>
        obtain ⟨x, py⟩ := q
        obtain rfl := vNameP_eq hn
        have hc : (chkN ct i x && (augOk o && (decide (op = binOp o) && (isVis ct.sc x && chkE ct e v)))) = true := hc
        rw [Bool.and_eq_true, Bool.and_eq_true, Bool.and_eq_true, Bool.and_eq_true] at hc
        obtain ⟨h1, h2, h3, h4, h5⟩ := hc
        have h3 := of_decide_eq_true h3
        subst h3
        unfold chkN at h1
        simp only [Bool.and_eq_true, beq_iff_eq, Bool.not_eq_true', beq_eq_false_iff_ne] at h1
        obtain ⟨k1, k2, k3⟩ := h1
        obtain ⟨l, hf⟩ := g.sto x k2
        have hiw : i ≠ P.iw := by rw [← g.hiw]; exact k3
        have hN : X.N[i]? = some x := by rw [g.hN]; exact k1
        cases o <;> try (cases h2; done)
        · exact ps_imp (ps_aug (by rw [g.hN]; exact g.nd) hN l (sE e g h5).1 ip_add hf) fun D σ H h => q_aug (fun _ _ => rfl) hiw h
        · exact ps_imp (ps_aug (by rw [g.hN]; exact g.nd) hN l (sE e g h5).1 ip_sub hf) fun D σ H h => q_aug (fun _ _ => rfl) hiw h
  | .app i e, st, hc => by
    unfold chkSt at hc
    cases hv : vExp st with
    | none => rw [hv] at hc; cases hc
    | some x =>
      rw [hv] at hc
      obtain ⟨pos, rfl⟩ := vExp_eq hv
      have hc : (match vMeth x with
        | some (o, m, ap, [y], cp) => m == ("append" : Str) && (ap.endLine == cp.line && (chkV ct i o && (notStar y && chkE ct e y)))
        | _ => false) = true := hc
      split at hc
      · rename_i o m ap y cp hm
        obtain rfl := vMeth_eq hm
        have hc : (m == ("append" : Str) && (ap.endLine == cp.line && (chkV ct i o && (notStar y && chkE ct e y)))) = true := hc
        simp only [Bool.and_eq_true] at hc
        obtain ⟨h1, h2, h3, h4, h5⟩ := hc
        obtain rfl : m = "append" := beq_iff_eq.mp h1
        obtain ⟨z, pz, rfl, hz⟩ := pe_v g h3
        exact ps_imp (ps_expr (pe_bm PySem.F.plainAttrs_list PySem.F.slot_list_append PySem.F.type_list_append mt_append hz (pa_cons (sE e g h5).1 pa_nil (star_cons h4)) rfl (hfew_ok h4 rfl (by decide)) h2 (star_cons h4) rfl)) fun D σ H h => q_app h
      · cases hc
  | .ext i e, st, hc => by
    unfold chkSt at hc
    cases hv : vExp st with
    | none => rw [hv] at hc; cases hc
    | some x =>
      rw [hv] at hc
      obtain ⟨pos, rfl⟩ := vExp_eq hv
      have hc : (match vMeth x with
        | some (o, m, ap, [y], cp) => m == ("extend" : Str) && (ap.endLine == cp.line && (chkV ct i o && (notStar y && chkE ct e y)))
        | _ => false) = true := hc
      split at hc
      · rename_i o m ap y cp hm
        obtain rfl := vMeth_eq hm
        have hc : (m == ("extend" : Str) && (ap.endLine == cp.line && (chkV ct i o && (notStar y && chkE ct e y)))) = true := hc
        simp only [Bool.and_eq_true] at hc
        obtain ⟨h1, h2, h3, h4, h5⟩ := hc
        obtain rfl : m = "extend" := beq_iff_eq.mp h1
        obtain ⟨z, pz, rfl, hz⟩ := pe_v g h3
        exact ps_imp (ps_expr (pe_bm PySem.F.plainAttrs_list PySem.F.slot_list_extend PySem.F.type_list_extend mt_extend hz (pa_cons (sE e g h5).1 pa_nil (star_cons h4)) rfl (hfew_ok h4 rfl (by decide)) h2 (star_cons h4) rfl)) fun D σ H h => q_ext h
      · cases hc
  | .ins0 i e, st, hc => by
    unfold chkSt at hc
    cases hv : vExp st with
    | none => rw [hv] at hc; cases hc
    | some x =>
      rw [hv] at hc
      obtain ⟨pos, rfl⟩ := vExp_eq hv
      have hc : (match vMeth x with
        | some (o, m, ap, [z, y], cp) => m == ("insert" : Str) && (ap.endLine == cp.line && (chkV ct i o && (chkE ct (.int 0) z && (notStar z && (notStar y && chkE ct e y)))))
        | _ => false) = true := hc
      split at hc
      · rename_i o m ap z y cp hm
        obtain rfl := vMeth_eq hm
        have hc : (m == ("insert" : Str) && (ap.endLine == cp.line && (chkV ct i o && (chkE ct (.int 0) z && (notStar z && (notStar y && chkE ct e y)))))) = true := hc
        simp only [Bool.and_eq_true] at hc
        obtain ⟨h1, h2, h3, h6, h7, h4, h5⟩ := hc
        obtain rfl : m = "insert" := beq_iff_eq.mp h1
        obtain ⟨w, pz, rfl, hz⟩ := pe_v g h3
        have h0 := h6
        unfold chkE at h0
        cases hcst : vConst z with
        | none => rw [hcst] at h0; cases h0
        | some c =>
          rw [hcst] at h0
          obtain ⟨j, p, rfl⟩ := vConst_eq hcst
          cases c with
          | int n =>
            obtain rfl : 0 = n := beq_iff_eq.mp h0
            exact ps_imp (ps_expr (pe_bm PySem.F.plainAttrs_list PySem.F.slot_list_insert PySem.F.type_list_insert mt_insert hz (pa_cons pe_int (pa_cons (sE e g h5).1 pa_nil (star_cons h4)) rfl) rfl (hfew_ok rfl (star_cons h4) (by simp)) h2 rfl (plain1 h4))) fun D σ H h => q_ins h
          | _ => cases h0
      · cases hc
  | .seti i j e, st, hc => by
    unfold chkSt at hc
    cases hv : vAsg st with
    | none => rw [hv] at hc; cases hc
    | some q =>
      obtain ⟨t, v, p⟩ := q
      rw [hv] at hc
      obtain rfl := vAsg_eq hv
      have hc : (match vSub t with
        | some (o, ix) => chkV ct i o && ((vSli ix).isNone && (chkE ct j ix && chkE ct e v))
        | none => false) = true := hc
      cases hs : vSub t with
      | none => rw [hs] at hc; cases hc
      | some q =>
        obtain ⟨o, ix⟩ := q
        rw [hs] at hc
        obtain ⟨ps, rfl⟩ := vSub_eq hs
        have hc : (chkV ct i o && ((vSli ix).isNone && (chkE ct j ix && chkE ct e v))) = true := hc
        simp only [Bool.and_eq_true] at hc
        obtain ⟨h1, h2, h3, h4⟩ := hc
        obtain ⟨w, pz, rfl, hz⟩ := pe_v g h1
        exact ps_imp (ps_asg (sE e g h4).1 (pg_sub hz (sE j g h3).1 set_list (sub_assign (by simpa using h2))) (sole rfl) (swp_sub rfl rfl) rfl) fun D σ H h => q_seti h
  | .augi i j o e, st, hc => by unfold chkSt at hc; cases hc
  | .upd i e, st, hc => by unfold chkSt at hc; cases hc
  | .popt pt i, st, hc => by
    unfold chkSt at hc
    cases hv : vAsg st with
    | none => rw [hv] at hc; cases hc
    | some q =>
      obtain ⟨t, v, p⟩ := q
      rw [hv] at hc
      obtain rfl := vAsg_eq hv
      have hc : (match vMeth v with
        | some (o, m, ap, [], cp) => m == ("pop" : Str) && (ap.endLine == cp.line && (chkV ct i o && ((isTupE t || (vNameP t).isSome) && chkP ct pt t)))
        | _ => false) = true := hc
      split at hc
      · rename_i o m ap cp hm
        obtain rfl := vMeth_eq hm
        have hc : (m == ("pop" : Str) && (ap.endLine == cp.line && (chkV ct i o && ((isTupE t || (vNameP t).isSome) && chkP ct pt t)))) = true := hc
        simp only [Bool.and_eq_true] at hc
        obtain ⟨h1, h2, h3, h4, h5⟩ := hc
        obtain rfl : m = "pop" := beq_iff_eq.mp h1
        obtain ⟨z, pz, rfl, hz⟩ := pe_v g h3
        have a1 : swapsWithSole [t] (.Call (.Attribute (.Name z pz) "pop" ap) [] [] cp) p.line X.env = pure false := by
          cases t <;> rfl
        have a2 : (assignEach [t] X.env).map (·.2) = [assign t X.env] := by
          cases t <;> first | rfl | (simp [isTupE, vNameP] at h4)
        exact ps_imp (ps_asg (pe_bm0 PySem.F.plainAttrs_list PySem.F.slot_list_pop PySem.F.type_list_pop mt_pop hz rfl h2) (snd_pat g h5) a1 (swp_tup rfl) a2) fun D σ H h => q_pop h
      · cases hc
  | .ite t a b, st, hc => by
    unfold chkSt at hc
    cases hv : vIfS st with
    | none => rw [hv] at hc; cases hc
    | some q =>
      obtain ⟨c, xs, ys⟩ := q
      rw [hv] at hc
      obtain ⟨p, rfl⟩ := vIfS_eq hv
      simp only [Bool.and_eq_true] at hc
      exact ps_imp (ps_if (sE t g hc.1).2 (sSs g hk how hp a hc.2.1) (sSs g hk how hp b hc.2.2)) fun D σ H h => q_ite h
  | .whl t b, st, hc => by
    unfold chkSt at hc
    cases hv : vWhl st with
    | none => rw [hv] at hc; cases hc
    | some q =>
      obtain ⟨c, xs⟩ := q
      rw [hv] at hc
      obtain ⟨p, rfl⟩ := vWhl_eq hv
      simp only [Bool.and_eq_true] at hc
      exact ps_imp (ps_while hp (sE t g hc.1).2 (sSs g hk how hp b hc.2)) fun D σ H h => q_whl h
  | .for_ pt sr b, st, hc => by
    unfold chkSt at hc
    cases hv : vFor st with
    | none => rw [hv] at hc; cases hc
    | some q =>
      obtain ⟨tg, it, xs⟩ := q
      rw [hv] at hc
      obtain ⟨p, rfl⟩ := vFor_eq hv
      simp only [Bool.and_eq_true] at hc
      obtain ⟨hi, hf⟩ := sS sr true g hc.1
      exact ps_imp (ps_for hp g.calm hi (snd_pat g hc.2.1) (sSs g hk how hp b hc.2.2) (hf X.env)) fun D σ H h => q_for h
  | .ret e, st, hc => by
    unfold chkSt at hc
    cases hv : vRet st with
    | none => rw [hv] at hc; cases hc
    | some v =>
      rw [hv] at hc
      obtain ⟨p, rfl⟩ := vRet_eq hv
      exact ps_imp (ps_ret (sE e g hc).1) fun D σ H h => q_ret h
  | .brk, st, hc => by
    unfold chkSt at hc
    split at hc
    · refine ps_imp ps_break fun D σ H h => ?_
      obtain ⟨O0, H0, O, ρ, R, S, ev, q⟩ := h
      have ev : R (.bk ρ) := by unfold Pm.ex PV.ex at ev; exact ev
      exact q _ ev O σ H S (Kp.refl _ _)
    · cases hc
  | .bad, st, hc => by
    refine ps_imp ps_never fun D σ H h => ?_
    obtain ⟨O0, H0, O, ρ, R, S, ev, q⟩ := h
    unfold Pm.ex PV.ex at ev
    exact ev
theorem sSs (g : Gd P ct X k) (hk : ct.sc.kind = .function) (how : ct.own = ct.sc) (hp : PassesOwn (model X.prog X.w) X.A X.env X.xe) : ∀ (s : Ss) {st : List Stmt}, chkSs ct s st = true → PSs X st (tS P X.K (P.exs s))
  | .nil, [], hc => pss_imp pss_nil fun D σ H h => by
    obtain ⟨O0, H0, O, ρ, R, S, ev, q⟩ := h
    have ev : R (.nx ρ) := by unfold Pm.exs PV.exs at ev; exact ev
    exact q _ ev O σ H S (Kp.refl _ _)
  | .nil, _ :: _, hc => by unfold chkSs at hc; cases hc
  | .cons s r, [], hc => by unfold chkSs at hc; cases hc
  | .cons s r, st :: sts, hc => by
    unfold chkSs at hc
    rw [Bool.and_eq_true] at hc
    exact pss_imp (pss_cons (sSt g hk how hp s hc.1) (sSs g hk how hp r hc.2)) fun D σ H h => q_cons h
end
end
end PV

set_option maxHeartbeats 4000000
/-! PV: defs. -/
namespace PV
open PySem PyProof.Rows L2 RZ

section
variable {PG : Program} {W0 : World} {K : PySem.W.Frag} {mg : Str → Option Value} {base : Heap} {k : Nat}
/-- what the module gives: the built-ins' names free, the constants, the defs -/
structure Md (PG : Program) (W0 : World) (K : PySem.W.Frag) (mg : Str → Option Value) (base : Heap) (P : Pm) (fs : List (Nat × Str × Nat × Bool)) (gl : List (Nat × Str)) (k : Nat) : Prop where
  blt : ∀ x ∈ bltN, mg x = none
  fns : ∀ f x n b, (f, x, n, b) ∈ fs → ∃ a fd ps, mg x = some (.ref a) ∧ PySem.W.keepIn K (.ref a) = true ∧ Binds K fd ps [] ∧
    FnOk PG W0 K mg base CX0 k a fd ps (if b = true then spG n (P.G f) K else spF n (P.F f) K)
  hws : ∀ f x n, (f, x, n, true) ∈ fs → P.w.isSome = true
  gls : ∀ n x, (n, x) ∈ gl → ∃ v u d, mg x = some u ∧ RelV v u ∧ P.C n = some d ∧ ∀ H, Rp K H v d
theorem Md.gd {P : Pm} {fs : List (Nat × Str × Nat × Bool)} {gl : List (Nat × Str)} (m : Md PG W0 K mg base P fs gl k) {N : List Str} {ps : List Str} {sc : Scope} {qual : Str} {f : Addr} {cdv : Value} {A : Around} {outer : List PySem.Env} {s : Shared} {H : Hp} {E : XK} (S : FnScope N ps sc)
    (hr : Room k (A.deeper (envOfC qual sc s.heap.objs.size f cdv))) : Gd P ⟨N, sc, sc, P.iw, fs, gl⟩ (cxOf CX0 PG W0 K mg base N qual sc f cdv A outer s H E).nox k where
  hN := rfl
  nd := S.nd
  hsc := rfl
  hiw := rfl
  calm := rfl
  room := hr
  blt := m.blt
  sto := fun x hx => by
    have hx : isLoc sc x = true := hx
    unfold isLoc at hx
    rw [Bool.or_eq_true, beq_iff_eq, beq_iff_eq] at hx
    exact ⟨hx, .inl rfl⟩
  fns := m.fns
  hws := m.hws
  gls := m.gls
theorem start_len {N : List Str} {vs : List V} (h : vs.length ≤ N.length) : (L2.start N vs).length = N.length := by
  unfold L2.start
  simp
  omega
theorem start_get {N : List Str} {vs : List V} {i : Nat} {v : V} (h : vs[i]? = some v) : (L2.start N vs)[i]? = some (some v) := by
  have hi : i < vs.length := (List.getElem?_eq_some_iff.mp h).1
  unfold L2.start
  rw [List.getElem?_append_left (by simpa using hi), List.getElem?_map, h]
  rfl
theorem sim_start {w : Wp} {iw : Nat} {O : List Addr} {H : Hp} {N : List Str} {vs : List V} {ds : List D} (hl : vs.length ≤ N.length) (dm : Dm O H) (wk : WOk w H) (hw : ∀ a, w.is a → a ∈ O) (pre : Env) (hp : ∀ s ∈ pre, s = .no) (hd : Rps K (hid O H) (vs.drop pre.length) ds) (hpl : pre.length ≤ vs.length)
    (hwS : ∀ t, w = some t → (L2.start N vs)[iw]? = some (some (.ref t.1)) ∧ (pre ++ ds.map Slot.sh ++ List.replicate (N.length - (pre.length + ds.length)) Slot.no)[iw]? = some .no) :
    Sim K w iw O H O H (L2.start N vs) (pre ++ ds.map Slot.sh ++ List.replicate (N.length - (pre.length + ds.length)) Slot.no) := by
  have hdl : ds.length = vs.length - pre.length := by rw [← hd.length]; simp
  have noow : ∀ {i : Nat} {d : D}, ¬ (pre ++ ds.map Slot.sh ++ List.replicate (N.length - (pre.length + ds.length)) Slot.no)[i]? = some (.ow d) := fun {i d} h => by
    have hm := List.mem_of_getElem? h
    rcases List.mem_append.mp hm with h | h
    · rcases List.mem_append.mp h with h | h
      · cases hp _ h
      · obtain ⟨_, _, h⟩ := List.mem_map.mp h
        cases h
    · cases (List.mem_replicate.mp h).2
  refine ⟨?_, fun i s h => ?_, fun i j d d' p h => absurd h noow, dm, dm, fun _ h => h, fun _ h => .inl h, Ext.refl wk, wk, hw, hwS, fun i d p h => absurd h noow⟩
  · rw [start_len hl]
    simp
    omega
  · by_cases h1 : i < pre.length
    · rw [List.append_assoc, List.getElem?_append_left h1] at h
      have := hp s (List.mem_of_getElem? h)
      subst this
      trivial
    · by_cases h2 : i < pre.length + ds.length
      · rw [List.getElem?_append_left (by simpa using h2), List.getElem?_append_right (by omega), List.getElem?_map] at h
        cases e : ds[i - pre.length]? with
        | none => rw [e] at h; cases h
        | some d =>
          rw [e] at h
          cases h
          obtain ⟨v, hv, r⟩ := hd.getD e
          rw [List.getElem?_drop, show pre.length + (i - pre.length) = i by omega] at hv
          exact ⟨v, by rw [start_get hv]; rfl, r⟩
      · rw [List.getElem?_append_right (by simp; omega)] at h
        have := (List.mem_replicate.mp (List.mem_of_getElem? h)).2
        subst this
        trivial
/-- a pure def -/
theorem fn_pure {P : Pm} {fs : List (Nat × Str × Nat × Bool)} {gl : List (Nat × Str)} (m : Md PG W0 K mg base P fs gl k) (hw : P.w = none) {x qual : Str} {st : Stmt} {f : Addr} {fd : FuncData} {N ps : List Str} (F : Fun K x qual st f fd) (S : FnScope N ps (defScope st)) (hps : ps.length ≤ N.length) {b : Ss}
    (hc : chkSs ⟨N, defScope st, defScope st, P.iw, fs, gl⟩ b (defBody st) = true) {f' : List D → W D} (hf : ∀ ds R, f' ds R → run wM P.C P.F P.G N.length b ds R) : FnOk PG W0 K mg base CX0 (k + 1) f fd ps (spF ps.length f' K) := by
  refine F.ok S (fun vs H Q E h => h.1) (fun cdv A outer s H vs Q E hr h => ⟨_, sSs (m.gd S hr) S.kind rfl PassesOwn.never b hc, ?_⟩)
  obtain ⟨hl, O, ds, R, dm, rs, hR, q⟩ := h
  have hv := rs.length
  have hR := hf ds R hR
  have hR : P.exs b (ds.map Slot.sh ++ List.replicate (N.length - ds.length) Slot.no) fun f => (match f with
    | .nx _ => wM.pure PyData.none
    | .rt d => wM.pure d
    | .bk _ => wM.fail) R := by unfold run at hR; exact hR
  have Sm : Sim K P.w P.iw O H O H (L2.start N vs) ([] ++ ds.map Slot.sh ++ List.replicate (N.length - (0 + ds.length)) Slot.no) := by
    rw [hw]
    exact sim_start (w := none) (pre := []) (by omega) dm trivial (fun a h => by obtain ⟨t, ht, _⟩ := h; cases ht) (fun _ h => by cases h) rs (Nat.zero_le _) fun t ht => by cases ht
  rw [List.nil_append, Nat.zero_add] at Sm
  refine ⟨O, H, O, _, _, Sm, hR, fun g hg => ?_⟩
  have toLe : ∀ {H'}, Ext P.w H H' → Le H H' := fun {H'} e a o h => e.1 a o (fun z => by obtain ⟨t, ht, _⟩ := z; rw [hw] at ht; cases ht) h
  cases g with
  | nx ρ' => exact fun O' σ' H' S' _ => q _ .non H' hg (toLe S'.ent) .non
  | rt d => exact fun v H' r e => q d v H' hg (toLe e) r
  | bk ρ' => exact False.elim hg
/-- a def whose first parameter is w -/
theorem fn_w {C : Nat → Option D} {F' G' : Nat → List D → W D} {fs : List (Nat × Str × Nat × Bool)} {gl : List (Nat × Str)} (m : ∀ t, Md PG W0 K mg base ⟨C, F', G', some t, 0⟩ fs gl k) {x qual : Str} {st : Stmt} {f : Addr} {fd : FuncData} {N ps : List Str} (F : Fun K x qual st f fd) (S : FnScope N ps (defScope st)) (hps : ps.length ≤ N.length) {b : Ss}
    (hc : chkSs ⟨N, defScope st, defScope st, 0, fs, gl⟩ b (defBody st) = true) {f' : List D → W D} (hf : ∀ ds R, f' ds R → exs wM C F' G' b (.no :: (ds.map Slot.sh ++ List.replicate (N.length - (1 + ds.length)) Slot.no)) fun f => (match f with
    | .nx _ => wM.pure PyData.none
    | .rt d => wM.pure d
    | .bk _ => wM.fail) R) : FnOk PG W0 K mg base CX0 (k + 1) f fd ps (spG ps.length f' K) := by
  refine F.ok S (fun vs H Q E h => h.1) (fun cdv A outer s H vs Q E hr h => ?_)
  obtain ⟨hl, t, O, ds, R, vs', rfl, wk, hO, dm, rs, hR, q⟩ := h
  refine ⟨_, sSs ((m t).gd S hr) S.kind rfl PassesOwn.never b hc, ?_⟩
  have hv := rs.length
  have hR := hf ds R hR
  rw [List.length_cons] at hl
  have Sm := sim_start (K := K) (w := some t) (iw := 0) (O := O) (H := H) (N := N) (vs := .ref t.1 :: vs') (ds := ds) (pre := [.no]) (by simp; omega) dm wk (fun a h => by obtain ⟨t', ht, rfl⟩ := h; cases ht; exact hO) (fun _ h => by simpa using h) rs (by simp) fun t' ht => by
    cases ht
    exact ⟨start_get (by rfl), rfl⟩
  refine ⟨O, H, O, _, _, Sm, hR, fun g hg => ?_⟩
  cases g with
  | nx ρ' => exact fun O' σ' H' S' _ => q _ .non H' hg S'.ent .non
  | rt d => exact fun v H' r e => q d v H' hg e r
  | bk ρ' => exact False.elim hg
end
end PV

set_option maxHeartbeats 4000000
/-! PV: the law's own draws: _law_next. -/
namespace PV
open PySem PyProof.Rows L2 RZ

/-- what _law_next(w, n) gives -/
def gNext : List D → W D := fun ds R => ∃ n : Int, ds = [.int n] ∧ 0 < n ∧ ∀ j : Int, 0 ≤ j → j < n → R (.int j)
def nextB (p1 p2 p3 p4 p5 p6 p7 p8 p9 p10 p11 p12 p13 p14 p15 p16 p17 p18 p19 p20 p21 p22 p23 p24 p25 p26 p27 p28 p29 p30 p31 : Pos) : List Stmt :=
  [.AugAssign (.Subscript (.Name "w" p1) (.Constant (.str "at") 0 p2) p3) .Add (.Constant (.int 1) 0 p4) p5,
   .If (.Compare (.Subscript (.Name "w" p6) (.Constant (.str "at") 0 p7) p8) [.Gt] [.Call (.Name "len" p9) [.Subscript (.Name "w" p10) (.Constant (.str "draws") 0 p11) p12] [] p13] p14) [.Return (some (.Constant (.int 0) 0 p15)) p16] [] p17,
   .Return (some (.BinOp (.Call (.Name "int" p18) [.Subscript (.Subscript (.Name "w" p19) (.Constant (.str "draws") 0 p20) p21) (.BinOp (.Subscript (.Name "w" p22) (.Constant (.str "at") 0 p23) p24) .Sub (.Constant (.int 1) 0 p25) p26) p27] [] p28) .Mod (.Name "many" p29) p30)) p31]
def nextSc (sc : Scope) : Bool := isLoc sc "w" && isLoc sc "many" && (sc.names.lookup ("len" : Str) == some .globalImplicit) && (sc.names.lookup ("int" : Str) == some .globalImplicit)
section
variable {PG : Program} {W0 : World} {K : PySem.W.Frag} {mg : Str → Option Value} {base : Heap} {k : Nat}
theorem visB {sc : Scope} {x : Str} (h : isLoc sc x = true) : Vis sc x := by
  unfold isLoc at h
  rw [Bool.or_eq_true, beq_iff_eq, beq_iff_eq] at h
  rcases h with h | h
  · exact .inl h
  · exact .inr (.inl h)
theorem ok_next {st : Stmt} {f : Addr} {fd : FuncData} {p1 p2 p3 p4 p5 p6 p7 p8 p9 p10 p11 p12 p13 p14 p15 p16 p17 p18 p19 p20 p21 p22 p23 p24 p25 p26 p27 p28 p29 p30 p31 : Pos} (F : Fun K "_law_next" "_law_next" st f fd) (S : FnScope ["w", "many"] ["w", "many"] (defScope st))
    (hb : defBody st = nextB p1 p2 p3 p4 p5 p6 p7 p8 p9 p10 p11 p12 p13 p14 p15 p16 p17 p18 p19 p20 p21 p22 p23 p24 p25 p26 p27 p28 p29 p30 p31) (hs : nextSc (defScope st) = true) (ml : mg "len" = none) (mi : mg "int" = none) : FnOk PG W0 K mg base CX0 (k + 1) f fd ["w", "many"] (spG 2 gNext K) := by
  unfold nextSc at hs
  simp only [Bool.and_eq_true, beq_iff_eq] at hs
  obtain ⟨⟨⟨s1, s2⟩, s3⟩, s4⟩ := hs
  have s1 := visB s1
  have s2 := visB s2
  refine F.ok S (fun vs H Q E h => h.1) (fun cdv A outer s H vs Q E hr h => ?_)
  obtain ⟨hl, t, O, ds, R, vs', rfl, wk, hO, dm, rs, hR, q⟩ := h
  obtain ⟨n, rfl, hn, hR⟩ := hR
  obtain ⟨pw, pd, ns⟩ := t
  obtain ⟨j, j0, h1, h2⟩ := wk
  obtain ⟨v, rfl⟩ : ∃ v, vs' = [v] := by
    cases rs with | cons _ r => cases r; exact ⟨_, rfl⟩
  cases rs with
  | cons rn _ =>
    cases rn
    have hu := hu_of hr
    have nda : ¬ (Str.ofString "draws" = Str.ofString "at") := by decide
    have nw : pw ≠ pd := fun z => by rw [z, h2] at h1; cases h1
    generalize hX : (cxOf CX0 PG W0 K mg base ["w", "many"] "_law_next" (defScope st) f cdv A outer s H E).nox = X
    have hN : X.N = (["w", "many"] : List Str) := by rw [← hX]; rfl
    have hsc : X.env.scope = defScope st := by rw [← hX]; rfl
    have hm : X.mg = mg := by rw [← hX]; rfl
    have hK : X.K = K := by rw [← hX]; rfl
    have hA : X.A.units + 1 < cLine := by rw [← hX]; exact hu
    have gl : Gl X "len" := by show X.env.scope.names.lookup _ = _; rw [hsc]; exact s3
    have gi : Gl X "int" := by show X.env.scope.names.lookup _ = _; rw [hsc]; exact s4
    have pw' : ∀ p, PE X (.Name "w" p) (tVar 0) := fun p => pe_var (by rw [hN]; rfl) (by rw [hsc]; exact s1)
    have pm' : ∀ p, PE X (.Name "many" p) (tVar 1) := fun p => pe_var (by rw [hN]; rfl) (by rw [hsc]; exact s2)
    have nsl : ∀ c k p, NoSl (.Constant c k p) := fun _ _ _ _ _ => rfl
    rw [hb]
    refine ⟨_, pss_cons (ps_daug hA (pw' _) pe_str pe_int in_add (fun _ _ _ => rfl)) (pss_cons (ps_if (pt_cmpR op_gt (pe_dget hA (pw' _) pe_str (nsl _ _ _)) (pe_callB call_len_seq gl (by rw [hm]; exact ml) rfl (pa_cons (pe_dget hA (pw' _) pe_str (nsl _ _ _)) pa_nil)) (nomark _)) (pss_one (ps_ret pe_int)) pss_nil)
      (pss_one (ps_ret (pe_op op_mod (pe_callTy bi_int gi (by rw [hm]; exact mi) rfl (pa_cons (pe_ix ix_list (pe_dget hA (pw' _) pe_str (nsl _ _ _)) (pe_op op_sub (pe_dget hA (pw' _) pe_str (nsl _ _ _)) pe_int) (fun _ _ => rfl)) pa_nil)) (pm' _))))), ?_⟩
    generalize hH1 : upd H pw (.dK [(.inr "draws", .ref pd), (.inr "at", .int (j + 1))]) = H1
    have e1 : H1 pw = some (.dK [(.inr "draws", .ref pd), (.inr "at", .int (j + 1))]) := by rw [← hH1]; simp [upd]
    have e2 : H1 pd = some (.lst (ns.map .int)) := by rw [← hH1, upd_ne nw.symm]; exact h2
    have ex : Ext (some (pw, pd, ns)) H H1 := ⟨fun a o hw ha => by
      rw [← hH1, upd_ne (fun z => hw ⟨_, rfl, z⟩)]
      exact ha, j + 1, by omega, e1, e2⟩
    have dg1 : DGet H1 pw (.str "at") (some (.int (j + 1))) := .inl ⟨_, .inr "at", .inl e1, rfl, by simp [valV, nda]⟩
    have dg2 : DGet H1 pw (.str "draws") (some (.ref pd)) := .inl ⟨_, .inr "draws", .inl e1, rfl, by simp [valV, nda]⟩
    have fin : ∀ (i : Int) H', 0 ≤ i → i < n → Le H1 H' → Q (.int i) H' := fun i H' a b le => q (.int i) (.int i) H' (hR i a b) (ex.trans (Ext.of_le ex.2 le)) (.int i)
    refine ⟨.ref pw, rfl, pw, .int j, rfl, .inl ⟨_, .inr "at", .inl h1, rfl, by simp [valV, nda]⟩, j, 1, rfl, rfl, H1, .inl ⟨_, .inr "at", h1, rfl, by rw [sizeLine_eq]; simp, ?_⟩, ?_⟩
    · rw [← hH1]
      simp [putK, nda]
    refine ⟨.ref pw, rfl, pw, .int (j + 1), rfl, dg1, .ref pw, rfl, pw, .ref pd, rfl, dg2, pd, ns.map .int, rfl, .inl (SqL.of e2), ?_⟩
    refine ⟨_, _, rfl, rfl, decide (((ns.map V.int).length : Int) < j + 1), rfl, ?_⟩
    by_cases hc : ((ns.map V.int).length : Int) < j + 1
    · rw [decide_eq_true hc]
      exact fin 0 H1 (by omega) hn (Le.refl _)
    · rw [decide_eq_false hc]
      have hlen : j.toNat < ns.length := by
        rw [List.length_map] at hc
        omega
      have hat : atI (ns.map V.int) j = some (.int ns[j.toNat]) := by
        have e : (ns.map V.int)[j.toNat]? = some (.int ns[j.toNat]) := by rw [List.getElem?_map, List.getElem?_eq_getElem hlen]; rfl
        have z := atI_nat (xs := ns.map V.int) e
        rwa [show ((j.toNat : Nat) : Int) = j by omega] at z
      refine ⟨.ref pw, rfl, pw, .ref pd, rfl, dg2, .ref pw, rfl, pw, .int (j + 1), rfl, dg1, j + 1, 1, rfl, rfl, ?_⟩
      refine ⟨pd, ns.map .int, j, .int ns[j.toNat], rfl, congrArg V.int (show j + 1 - 1 = j by omega), SqL.of e2, hat, ?_⟩
      refine ⟨[], .int ns[j.toNat], .int ns[j.toNat], .int ns[j.toNat], rfl, (fun _ h => by cases h), .inl (.int _), rfl, fun v H' le rp _ => ?_⟩
      cases rp
      exact ⟨.int n, rfl, _, _, rfl, rfl, hn, fin _ H' (Int.emod_nonneg _ (by omega)) (Int.emod_lt_of_pos _ hn) le⟩
end
end PV

set_option maxHeartbeats 4000000
/-! PV: reckoning in Option. -/
namespace PV
open PySem

section
variable {C : Nat → Option D} {F G : Nat → List D → Option D} {ρ : Env}
@[simp] theorem o_lift {α : Type} (o : Option α) : optM.lift o = o := by cases o <;> rfl
@[simp] theorem o_bind {α β : Type} (o : Option α) (f : α → Option β) : optM.bind o f = o.bind f := rfl
@[simp] theorem o_pure {α : Type} (a : α) : optM.pure a = some a := rfl
@[simp] theorem o_fail {α : Type} : (optM.fail : Option α) = none := rfl
@[simp] theorem o_none : ev optM C F G .none ρ = some .none := by unfold ev; rfl
@[simp] theorem o_bl {b : Bool} : ev optM C F G (.bl b) ρ = some (.bool b) := by unfold ev; rfl
@[simp] theorem o_int {b : Int} : ev optM C F G (.int b) ρ = some (.int b) := by unfold ev; rfl
@[simp] theorem o_str {b : Str} : ev optM C F G (.str b) ρ = some (.str b) := by unfold ev; rfl
@[simp] theorem o_var {i : Nat} : ev optM C F G (.var i) ρ = getV ρ i := by unfold ev; simp
@[simp] theorem o_gl {i : Nat} : ev optM C F G (.gl i) ρ = C i := by unfold ev; simp
@[simp] theorem o_bin {o : Op2} {a b : E} : ev optM C F G (.bin o a b) ρ = (ev optM C F G a ρ).bind fun x => (ev optM C F G b ρ).bind fun y => dBin o x y := by conv => { lhs; unfold ev }; simp
@[simp] theorem o_neg {a : E} : ev optM C F G (.neg a) ρ = (ev optM C F G a ρ).bind fun x => (int? x).map fun i => .int (-i) := by conv => { lhs; unfold ev }; simp
@[simp] theorem o_not {a : E} : ev optM C F G (.not a) ρ = (ev optM C F G a ρ).bind fun x => (bool? x).map fun i => .bool (!i) := by conv => { lhs; unfold ev }; simp
@[simp] theorem o_and {a b : E} : ev optM C F G (.and a b) ρ = (ev optM C F G a ρ).bind fun x => (bool? x).bind fun t => if t = true then ev optM C F G b ρ else some (.bool false) := by conv => { lhs; unfold ev }; simp
@[simp] theorem o_or {a b : E} : ev optM C F G (.or a b) ρ = (ev optM C F G a ρ).bind fun x => (bool? x).bind fun t => if t = true then some (.bool true) else ev optM C F G b ρ := by conv => { lhs; unfold ev }; simp
@[simp] theorem o_cmp {c : Cm} {a b : E} : ev optM C F G (.cmp c a b) ρ = (ev optM C F G a ρ).bind fun x => (ev optM C F G b ρ).bind fun y => (dCmp c x y).map .bool := by conv => { lhs; unfold ev }; simp
@[simp] theorem o_chain {c c' : Cm} {a b d : E} : ev optM C F G (.chain c c' a b d) ρ = (ev optM C F G a ρ).bind fun x => (ev optM C F G b ρ).bind fun y => (dCmp c x y).bind fun t => if t = true then (ev optM C F G d ρ).bind fun z => (dCmp c' y z).map .bool else some (.bool false) := by conv => { lhs; unfold ev }; simp
@[simp] theorem o_ife {t a b : E} : ev optM C F G (.ife t a b) ρ = (ev optM C F G t ρ).bind fun x => (bool? x).bind fun t => if t = true then ev optM C F G a ρ else ev optM C F G b ρ := by conv => { lhs; unfold ev }; simp
@[simp] theorem o_tup {es : Es} : ev optM C F G (.tup es) ρ = (evs optM C F G es ρ).map .tuple := by conv => { lhs; unfold ev }; simp [Option.map_eq_bind]; rfl
@[simp] theorem o_lst {es : Es} : ev optM C F G (.lst es) ρ = (evs optM C F G es ρ).map .list := by conv => { lhs; unfold ev }; simp [Option.map_eq_bind]; rfl
@[simp] theorem o_ix {a b : E} : ev optM C F G (.ix a b) ρ = (ev optM C F G a ρ).bind fun x => (ev optM C F G b ρ).bind fun y => dIx x y := by conv => { lhs; unfold ev }; simp
@[simp] theorem o_sl {a b c : E} : ev optM C F G (.sl a b c) ρ = (ev optM C F G a ρ).bind fun x => (ev optM C F G b ρ).bind fun y => (bound? b y).bind fun l => (ev optM C F G c ρ).bind fun z => (bound? c z).bind fun h => dSl x l h := by conv => { lhs; unfold ev }; simp
@[simp] theorem o_rev {a : E} : ev optM C F G (.rev a) ρ = (ev optM C F G a ρ).bind dRev := by conv => { lhs; unfold ev }; simp
@[simp] theorem o_yes : ev optM C F G .yes ρ = some (.bool true) := by unfold ev; rfl
@[simp] theorem o_call {f : Nat} {es : Es} : ev optM C F G (.call f es) ρ = (evs optM C F G es ρ).bind fun ds => F f ds := by conv => { lhs; unfold ev }; simp
@[simp] theorem o_callw {f : Nat} {es : Es} : ev optM C F G (.callw f es) ρ = (evs optM C F G es ρ).bind fun ds => G f ds := by conv => { lhs; unfold ev }; simp
@[simp] theorem o_bi {b : Bi} {a : E} : ev optM C F G (.bi b a) ρ = (ev optM C F G a ρ).bind fun x => dBi b x := by conv => { lhs; unfold ev }; simp
@[simp] theorem o_bist {s : Src} : ev optM C F G (.bis .tuple s) ρ = (evS optM C F G s ρ).map .tuple := by conv => { lhs; unfold ev }; simp [Option.map_eq_bind]; rfl
@[simp] theorem o_bisl {s : Src} : ev optM C F G (.bis .list s) ρ = (evS optM C F G s ρ).map .list := by conv => { lhs; unfold ev }; simp [Option.map_eq_bind]; rfl
@[simp] theorem o_mx {a b : E} : ev optM C F G (.mx a b) ρ = (ev optM C F G a ρ).bind fun x => (ev optM C F G b ρ).bind fun y => dMx x y := by conv => { lhs; unfold ev }; simp
@[simp] theorem o_mn {a b : E} : ev optM C F G (.mn a b) ρ = (ev optM C F G a ρ).bind fun x => (ev optM C F G b ρ).bind fun y => dMn x y := by conv => { lhs; unfold ev }; simp
@[simp] theorem o_isin {a : E} {t : Ty} : ev optM C F G (.isin a t) ρ = (ev optM C F G a ρ).map fun x => .bool (dIs x t) := by conv => { lhs; unfold ev }; simp [Option.map_eq_bind]; rfl
noncomputable def oStep (C : Nat → Option D) (F G : Nat → List D → Option D) (p : Pat) (t elt : E) (ρb : Env) (d : D) : Option (Option D) := (bindP p d ρb).bind fun ρ1 => (ev optM C F G t ρ1).bind fun x => (bool? x).bind fun b => if b = true then (ev optM C F G elt ρ1).bind fun y => some (some y) else some none
@[simp] theorem o_comp {own : List Nat} {p : Pat} {s : Src} {t elt : E} : ev optM C F G (.comp own p s t elt) ρ = (evS optM C F G s ρ).bind fun xs => (compL optM (oStep C F G p t elt (wip own ρ)) xs).bind fun ys => some (.list ys) := by
  conv => { lhs; unfold ev }
  simp
  rfl
@[simp] theorem os_nil : evs optM C F G .nil ρ = some [] := by unfold evs; rfl
@[simp] theorem os_cons {e : E} {es : Es} : evs optM C F G (.cons e es) ρ = (ev optM C F G e ρ).bind fun d => (evs optM C F G es ρ).bind fun ds => some (d :: ds) := by conv => { lhs; unfold evs }; simp
@[simp] theorem oS_val {e : E} : evS optM C F G (.val e) ρ = (ev optM C F G e ρ).bind items := by conv => { lhs; unfold evS }; simp
@[simp] theorem oS_r1 {a : E} : evS optM C F G (.r1 a) ρ = (ev optM C F G a ρ).bind fun x => (int? x).bind fun i => if okR 0 i = true then some (rng 0 i) else none := by conv => { lhs; unfold evS }; simp
@[simp] theorem oS_r2 {a b : E} : evS optM C F G (.r2 a b) ρ = (ev optM C F G a ρ).bind fun x => (int? x).bind fun i => (ev optM C F G b ρ).bind fun y => (int? y).bind fun j => if okR i j = true then some (rng i j) else none := by conv => { lhs; unfold evS }; simp
@[simp] theorem oS_r3 {a b c : E} : evS optM C F G (.r3 a b c) ρ = (ev optM C F G a ρ).bind fun x => (int? x).bind fun i => (ev optM C F G b ρ).bind fun y => (int? y).bind fun j => (ev optM C F G c ρ).bind fun z => (int? z).bind fun k => if (okR j i && k == -1) = true then some (rngD i j) else none := by conv => { lhs; unfold evS }; simp
@[simp] theorem oS_zip {a b : E} : evS optM C F G (.zip a b) ρ = (ev optM C F G a ρ).bind fun x => (ev optM C F G b ρ).bind fun y => zipD x y := by conv => { lhs; unfold evS }; simp
/-- a turn of a for -/
noncomputable def fBody (C : Nat → Option D) (F G : Nat → List D → Option D) (p : Pat) (b : Ss) (d : D) (ρ : Env) : Option Fl := (bindP p d ρ).bind fun ρ => exs optM C F G b ρ
/-- a turn of a while -/
noncomputable def wBody (C : Nat → Option D) (F G : Nat → List D → Option D) (t : E) (b : Ss) (ρ0 : Env) : Env → Option (Env ⊕ Fl) := whlStep optM (esc true t) (fun ρ => (ev optM C F G t ρ).bind bool?) (exs optM C F G b) ρ0
/-! statements -/
@[simp] theorem x_pass : ex optM C F G .pass ρ = some (.nx ρ) := by unfold ex; rfl
@[simp] theorem x_asg {i : Nat} {e : E} : ex optM C F G (.asg i e) ρ = (ev optM C F G e (frz (esc false e) ρ)).map fun d => .nx ((frz (esc false e) ρ).set i (slotOf e d)) := by conv => { lhs; unfold ex }; simp [Option.map_eq_bind]; rfl
@[simp] theorem x_asgp {is : List Nat} {es : Es} : ex optM C F G (.asgp is es) ρ = (evs optM C F G es (frz (escs es) ρ)).bind fun ds => (setAll is es ds (frz (escs es) ρ)).map .nx := by conv => { lhs; unfold ex }; simp [Option.map_eq_bind]; rfl
@[simp] theorem x_asgt {p : Pat} {e : E} : ex optM C F G (.asgt p e) ρ = (ev optM C F G e (frz (esc false e) ρ)).bind fun d => (bindP p d (frz (esc false e) ρ)).map .nx := by conv => { lhs; unfold ex }; simp [Option.map_eq_bind]; rfl
@[simp] theorem x_aug {i : Nat} {o : Op2} {e : E} : ex optM C F G (.aug i o e) ρ = (getV ρ i).bind fun x => (ev optM C F G e (frz (esc false e) ρ)).bind fun y => (int? x).bind fun a => (int? y).bind fun b => (dBin o (.int a) (.int b)).map fun z => .nx ((frz (esc false e) ρ).set i (.sh z)) := by conv => { lhs; unfold ex }; simp [Option.map_eq_bind]; rfl
@[simp] theorem x_app {i : Nat} {e : E} : ex optM C F G (.app i e) ρ = (getO (frz (esc false e) ρ) i).bind fun x => (ev optM C F G e (frz (esc false e) ρ)).bind fun d => (dApp d x).map fun y => .nx ((frz (esc false e) ρ).set i (.ow y)) := by conv => { lhs; unfold ex }; simp [Option.map_eq_bind]; rfl
@[simp] theorem x_ext {i : Nat} {e : E} : ex optM C F G (.ext i e) ρ = (getO (frz (esc false e) ρ) i).bind fun x => (ev optM C F G e (frz (esc false e) ρ)).bind fun d => (dExt d x).map fun y => .nx ((frz (esc false e) ρ).set i (.ow y)) := by conv => { lhs; unfold ex }; simp [Option.map_eq_bind]; rfl
@[simp] theorem x_ins0 {i : Nat} {e : E} : ex optM C F G (.ins0 i e) ρ = (getO (frz (esc false e) ρ) i).bind fun x => (ev optM C F G e (frz (esc false e) ρ)).bind fun d => (dIns0 d x).map fun y => .nx ((frz (esc false e) ρ).set i (.ow y)) := by conv => { lhs; unfold ex }; simp [Option.map_eq_bind]; rfl
@[simp] theorem x_seti {i : Nat} {k e : E} : ex optM C F G (.seti i k e) ρ = (getO (frz (esc false e ++ esc false k) ρ) i).bind fun x => (ev optM C F G e (frz (esc false e ++ esc false k) ρ)).bind fun d => (ev optM C F G k (frz (esc false e ++ esc false k) ρ)).bind fun j => (dSet j d x).map fun y => .nx ((frz (esc false e ++ esc false k) ρ).set i (.ow y)) := by conv => { lhs; unfold ex }; simp [Option.map_eq_bind]; rfl
@[simp] theorem x_popt {p : Pat} {i : Nat} : ex optM C F G (.popt p i) ρ = (getO ρ i).bind fun x => (dPop x).bind fun y => (bindP p y.1 (ρ.set i (.ow y.2))).map .nx := by conv => { lhs; unfold ex }; simp [Option.map_eq_bind]; rfl
@[simp] theorem x_ite {t : E} {a b : Ss} : ex optM C F G (.ite t a b) ρ = (ev optM C F G t (frz (esc true t) ρ)).bind fun x => (bool? x).bind fun t' => if t' = true then exs optM C F G a (frz (esc true t) ρ) else exs optM C F G b (frz (esc true t) ρ) := by conv => { lhs; unfold ex }; simp
@[simp] theorem x_for {p : Pat} {s : Src} {b : Ss} : ex optM C F G (.for_ p s b) ρ = (evS optM C F G s (frz (escF s) ρ)).bind fun xs => forL optM (fBody C F G p b) (frz (escF s) ρ) xs (frz (escF s) ρ) := by
  conv => { lhs; unfold ex }
  simp
  rfl
@[simp] theorem x_whl {t : E} {b : Ss} : ex optM C F G (.whl t b) ρ = whO (wBody C F G t b (frz (esc true t) ρ)) (frz (esc true t) ρ) := by
  conv => { lhs; unfold ex }
  simp
  rfl
@[simp] theorem x_ret {e : E} : ex optM C F G (.ret e) ρ = (ev optM C F G e (frz (esc false e) ρ)).map .rt := by conv => { lhs; unfold ex }; simp [Option.map_eq_bind]; rfl
@[simp] theorem x_brk : ex optM C F G .brk ρ = some (.bk ρ) := by unfold ex; rfl
@[simp] theorem xs_nil : exs optM C F G .nil ρ = some (.nx ρ) := by unfold exs; rfl
@[simp] theorem xs_cons {s : S} {r : Ss} : exs optM C F G (.cons s r) ρ = (ex optM C F G s ρ).bind fun f => match f with
    | .nx ρ => exs optM C F G r ρ
    | .rt d => some (.rt d)
    | .bk ρ => some (.bk ρ) := by conv => { lhs; unfold exs }; simp <;> rfl
end
/-! slots that are written out -/
@[simp] theorem frz_nil (ρ : Env) : frz [] ρ = ρ := by
  unfold frz
  refine List.ext_getElem? fun i => ?_
  rw [List.getElem?_mapIdx]
  cases ρ[i]? <;> simp
@[simp] theorem getV_0 {s : Slot} {ρ : Env} : getV (s :: ρ) 0 = s.val := rfl
@[simp] theorem getV_s {s : Slot} {ρ : Env} {n : Nat} : getV (s :: ρ) (n + 1) = getV ρ n := rfl
@[simp] theorem getO_0 {s : Slot} {ρ : Env} : getO (s :: ρ) 0 = s.own? := rfl
@[simp] theorem getO_s {s : Slot} {ρ : Env} {n : Nat} : getO (s :: ρ) (n + 1) = getO ρ n := rfl
@[simp] theorem val_no : Slot.val .no = none := rfl
@[simp] theorem val_sh {d : D} : Slot.val (.sh d) = some d := rfl
@[simp] theorem val_ow {d : D} : Slot.val (.ow d) = some d := rfl
@[simp] theorem own_sh {d : D} : Slot.own? (.sh d) = none := rfl
@[simp] theorem own_ow {d : D} : Slot.own? (.ow d) = some d := rfl
@[simp] theorem int_int {i : Int} : int? (.int i) = some i := rfl
@[simp] theorem bool_bool {i : Bool} : bool? (.bool i) = some i := rfl
@[simp] theorem b_addi {a b : Int} : dBin .add (.int a) (.int b) = some (.int (a + b)) := rfl
@[simp] theorem b_subi {a b : Int} : dBin .sub (.int a) (.int b) = some (.int (a - b)) := rfl
@[simp] theorem b_muli {a b : Int} : dBin .mul (.int a) (.int b) = if small64 a || small64 b then some (.int (a * b)) else none := rfl
@[simp] theorem b_addt {a b : List D} : dBin .add (.tuple a) (.tuple b) = if a.length + b.length ≤ LINE then some (.tuple (a ++ b)) else none := rfl
@[simp] theorem b_addl {a b : List D} : dBin .add (.list a) (.list b) = if a.length + b.length ≤ LINE then some (.list (a ++ b)) else none := rfl
@[simp] theorem b_fdiv {a b : Int} : dBin .fdiv (.int a) (.int b) = if b ≠ 0 ∧ b.natAbs < 1606938044258990275541962092341162602522202993782792835301376 then some (.int (a.fdiv b)) else none := rfl
@[simp] theorem b_mod {a b : Int} : dBin .mod (.int a) (.int b) = if b ≠ 0 then some (.int (a.fmod b)) else none := rfl
@[simp] theorem i_int {i : Int} : dBi .int (.int i) = some (.int i) := rfl
@[simp] theorem i_bool {i : Bool} : dBi .int (.bool i) = some (.int (if i then 1 else 0)) := rfl
@[simp] theorem i_lenl {i : List D} : dBi .len (.list i) = some (.int i.length) := rfl
@[simp] theorem i_lent {i : List D} : dBi .len (.tuple i) = some (.int i.length) := rfl
@[simp] theorem i_abs {i : Int} : dBi .abs (.int i) = some (.int (if i < 0 then -i else i)) := rfl
@[simp] theorem i_tupl {i : List D} : dBi .tuple (.list i) = some (.tuple i) := rfl
@[simp] theorem i_tupt {i : List D} : dBi .tuple (.tuple i) = some (.tuple i) := rfl
@[simp] theorem i_lstl {i : List D} : dBi .list (.list i) = some (.list i) := rfl
@[simp] theorem i_lstt {i : List D} : dBi .list (.tuple i) = some (.list i) := rfl
@[simp] theorem m_mx {a b : Int} : dMx (.int a) (.int b) = some (.int (if b > a then b else a)) := rfl
@[simp] theorem m_mn {a b : Int} : dMn (.int a) (.int b) = some (.int (if b < a then b else a)) := rfl
@[simp] theorem s_l {a : List D} {l h : Option Int} : dSl (.list a) l h = some (.list (cut a l h)) := rfl
@[simp] theorem s_t {a : List D} {l h : Option Int} : dSl (.tuple a) l h = some (.tuple (cut a l h)) := rfl
@[simp] theorem ix_l {a : List D} {i : Int} : dIx (.list a) (.int i) = L2.atI a i := rfl
@[simp] theorem ix_t {a : List D} {i : Int} : dIx (.tuple a) (.int i) = L2.atI a i := rfl
@[simp] theorem rv_l {a : List D} : dRev (.list a) = some (.list a.reverse) := rfl
@[simp] theorem rv_t {a : List D} : dRev (.tuple a) = some (.tuple a.reverse) := rfl
@[simp] theorem fr_rev {a : E} : E.fresh (.rev a) = true := rfl
@[simp] theorem it_l {a : List D} : items (.list a) = some a := rfl
@[simp] theorem it_t {a : List D} : items (.tuple a) = some a := rfl
@[simp] theorem bn_none {d : D} : bound? .none d = some none := rfl
@[simp] theorem ap_l {d : D} {xs : List D} : dApp d (.list xs) = if xs.length < LINE then some (.list (xs ++ [d])) else none := rfl
@[simp] theorem bp_nm {i : Nat} {d : D} {ρ : Env} : bindP (.nm i) d ρ = some (ρ.set i (.sh d)) := by unfold bindP; rfl
@[simp] theorem bp_tp {ps : Pats} {ds : List D} {ρ : Env} : bindP (.tp ps) (.tuple ds) ρ = bindPs ps ds ρ := by conv => { lhs; unfold bindP }
@[simp] theorem bps_nil {ρ : Env} : bindPs .nil [] ρ = some ρ := by unfold bindPs; rfl
@[simp] theorem bps_cons {p : Pat} {ps : Pats} {d : D} {ds : List D} {ρ : Env} : bindPs (.cons p ps) (d :: ds) ρ = (bindP p d ρ).bind fun ρ => bindPs ps ds ρ := by conv => { lhs; unfold bindPs }
@[simp] theorem c_lti {a b : Int} : dCmp .lt (.int a) (.int b) = some (decide (a < b)) := by
  show (if cmpOk (.int a) (.int b) = true then some (W.dataLt (.int a) (.int b)) else none) = _
  rw [if_pos (by rfl)]
  simp [PySem.W.dataLt_int, PyData.eqv, Bool.beq_eq_decide_eq, ← decide_not, Int.not_lt]
@[simp] theorem c_gti {a b : Int} : dCmp .gt (.int a) (.int b) = some (decide (b < a)) := by
  show (if cmpOk (.int a) (.int b) = true then some (W.dataLt (.int b) (.int a)) else none) = _
  rw [if_pos (by rfl)]
  simp [PySem.W.dataLt_int, PyData.eqv, Bool.beq_eq_decide_eq, ← decide_not, Int.not_lt]
@[simp] theorem c_lei {a b : Int} : dCmp .le (.int a) (.int b) = some (decide (a ≤ b)) := by
  show (if cmpOk (.int a) (.int b) = true then some (!W.dataLt (.int b) (.int a)) else none) = _
  rw [if_pos (by rfl)]
  simp [PySem.W.dataLt_int, PyData.eqv, Bool.beq_eq_decide_eq, ← decide_not, Int.not_lt]
@[simp] theorem c_gei {a b : Int} : dCmp .ge (.int a) (.int b) = some (decide (b ≤ a)) := by
  show (if cmpOk (.int a) (.int b) = true then some (!W.dataLt (.int a) (.int b)) else none) = _
  rw [if_pos (by rfl)]
  simp [PySem.W.dataLt_int, PyData.eqv, Bool.beq_eq_decide_eq, ← decide_not, Int.not_lt]
@[simp] theorem c_eqi {a b : Int} : dCmp .eq (.int a) (.int b) = some (decide (a = b)) := by
  show (if (sh (.int a) && sh (.int b)) = true then some (PyData.eqv (.int a) (.int b)) else none) = _
  rw [if_pos (by rfl)]
  simp [PySem.W.dataLt_int, PyData.eqv, Bool.beq_eq_decide_eq, ← decide_not, Int.not_lt]
@[simp] theorem c_nei {a b : Int} : dCmp .ne (.int a) (.int b) = some (!decide (a = b)) := by
  show (if (sh (.int a) && sh (.int b)) = true then some (!PyData.eqv (.int a) (.int b)) else none) = _
  rw [if_pos (by rfl)]
  rw [show PyData.eqv (.int a) (.int b) = (a == b) by simp [PyData.eqv], Bool.beq_eq_decide_eq]

@[simp] theorem slot_int {e : E} {i : Int} : slotOf e (.int i) = .sh (.int i) := by simp [slotOf, isMut]
@[simp] theorem slot_bool {e : E} {i : Bool} : slotOf e (.bool i) = .sh (.bool i) := by simp [slotOf, isMut]
@[simp] theorem slot_none {e : E} : slotOf e .none = .sh .none := by simp [slotOf, isMut]
@[simp] theorem slot_str {e : E} {i : Str} : slotOf e (.str i) = .sh (.str i) := by simp [slotOf, isMut]
@[simp] theorem slot_tup {e : E} {i : List D} : slotOf e (.tuple i) = .sh (.tuple i) := by simp [slotOf, isMut]
@[simp] theorem slot_lst {e : E} {i : List D} : slotOf e (.list i) = if e.fresh = true then .ow (.list i) else .sh (.list i) := by simp [slotOf, isMut]
@[simp] theorem fr_lst {es : Es} : E.fresh (.lst es) = true := rfl
@[simp] theorem fr_comp {a : List Nat} {b : Pat} {c : Src} {d e : E} : E.fresh (.comp a b c d e) = true := rfl
@[simp] theorem fr_comp2 {a a1 : List Nat} {b b1 : Pat} {c c1 : Src} {d d1 e : E} : E.fresh (.comp2 a a1 b c d b1 c1 d1 e) = true := rfl
@[simp] theorem fr_bin {o : Op2} {a b : E} : E.fresh (.bin o a b) = true := rfl
@[simp] theorem fr_sl {a b c : E} : E.fresh (.sl a b c) = true := rfl
@[simp] theorem fr_var {a : Nat} : E.fresh (.var a) = false := rfl
@[simp] theorem fr_ix {a b : E} : E.fresh (.ix a b) = false := rfl
@[simp] theorem fr_call {a : Nat} {b : Es} : E.fresh (.call a b) = false := rfl
@[simp] theorem fr_callw {a : Nat} {b : Es} : E.fresh (.callw a b) = false := rfl
@[simp] theorem fr_ife {a b c : E} : E.fresh (.ife a b c) = false := rfl
@[simp] theorem fr_sorted {a : E} : E.fresh (.bi .sorted a) = true := rfl
@[simp] theorem fr_list {a : E} : E.fresh (.bi .list a) = true := rfl
@[simp] theorem fr_blist {a : Src} : E.fresh (.bis .list a) = true := rfl
def frzAt (vs : List Nat) : Nat → Env → Env
  | _, [] => []
  | k, s :: ρ => (if vs.contains k = true then s.frz else s) :: frzAt vs (k + 1) ρ
def wipAt (vs : List Nat) : Nat → Env → Env
  | _, [] => []
  | k, s :: ρ => (if vs.contains k = true then Slot.no else s) :: wipAt vs (k + 1) ρ
theorem frz_at (vs : List Nat) : ∀ (k : Nat) (ρ : Env), (ρ.mapIdx fun i s => if vs.contains (i + k) then s.frz else s) = frzAt vs k ρ
  | k, [] => rfl
  | k, s :: ρ => by
    rw [List.mapIdx_cons, frzAt, ← frz_at vs (k + 1) ρ]
    simp only [Nat.zero_add, Nat.add_assoc, Nat.add_comm 1 k]
theorem wip_at (vs : List Nat) : ∀ (k : Nat) (ρ : Env), (ρ.mapIdx fun i s => if vs.contains (i + k) then Slot.no else s) = wipAt vs k ρ
  | k, [] => rfl
  | k, s :: ρ => by
    rw [List.mapIdx_cons, wipAt, ← wip_at vs (k + 1) ρ]
    simp only [Nat.zero_add, Nat.add_assoc, Nat.add_comm 1 k]
@[simp] theorem frz_cons {v : Nat} {vs : List Nat} {ρ : Env} : frz (v :: vs) ρ = frzAt (v :: vs) 0 ρ := frz_at (v :: vs) 0 ρ
@[simp] theorem wip_cons {v : Nat} {vs : List Nat} {ρ : Env} : wip (v :: vs) ρ = wipAt (v :: vs) 0 ρ := wip_at (v :: vs) 0 ρ
@[simp] theorem frzAt_nil {vs : List Nat} {k : Nat} : frzAt vs k [] = [] := rfl
@[simp] theorem frzAt_cons {vs : List Nat} {k : Nat} {s : Slot} {ρ : Env} : frzAt vs k (s :: ρ) = (if vs.contains k = true then s.frz else s) :: frzAt vs (k + 1) ρ := rfl
@[simp] theorem wipAt_nil {vs : List Nat} {k : Nat} : wipAt vs k [] = [] := rfl
@[simp] theorem wipAt_cons {vs : List Nat} {k : Nat} {s : Slot} {ρ : Env} : wipAt vs k (s :: ρ) = (if vs.contains k = true then Slot.no else s) :: wipAt vs (k + 1) ρ := rfl
@[simp] theorem sfrz_no : Slot.frz .no = .no := rfl
@[simp] theorem sfrz_sh {d : D} : Slot.frz (.sh d) = .sh d := rfl
@[simp] theorem sfrz_ow {d : D} : Slot.frz (.ow d) = .sh d := rfl
@[simp] theorem sfrz_fx {d : L2.V} : Slot.frz (.fx d) = .fx d := rfl
def mk1 : Slot → Slot → Slot
  | .no, _ => .no
  | _, b => b
@[simp] theorem mk_no {b : Slot} : mk1 .no b = .no := rfl
@[simp] theorem mk_sh {d : D} {b : Slot} : mk1 (.sh d) b = b := rfl
@[simp] theorem mk_ow {d : D} {b : Slot} : mk1 (.ow d) b = b := rfl
@[simp] theorem mk_fx {d : L2.V} {b : Slot} : mk1 (.fx d) b = b := rfl
@[simp] theorem mk_same {b : Slot} : mk1 b b = b := by cases b <;> rfl
@[simp] theorem msk_nil {ρ0 : Env} : msk ρ0 [] = [] := rfl
@[simp] theorem msk_cons {a b : Slot} {ρ0 ρ : Env} : msk (a :: ρ0) (b :: ρ) = mk1 a b :: msk ρ0 ρ := by
  unfold msk
  rw [List.mapIdx_cons]
  simp only [List.getElem?_cons_zero, List.getElem?_cons_succ]
  cases a <;> rfl

@[simp] theorem ints_map : ∀ ms : List Int, ints? (ms.map .int) = some ms
  | [] => rfl
  | m :: ms => by simp [ints?, ints_map ms]
@[simp] theorem i_sum {ms : List Int} : dBi .sum (.list (ms.map .int)) = some (.int ms.sum) := by simp [dBi]

/-! loops -/
theorem forL_ind {g : D → Env → Option Fl} {ρ0 : Env} (I : Nat → Env → Prop) {xs : List D} (step : ∀ i x ρ, xs[i]? = some x → I i ρ → ∃ ρ', g x ρ = some (.nx ρ') ∧ I (i + 1) (msk ρ0 ρ')) : ∀ {ρ : Env}, I 0 ρ → ∃ ρ', forL optM g ρ0 xs ρ = some (.nx ρ') ∧ I xs.length ρ' := by
  induction xs generalizing I with
  | nil => exact fun {ρ} h => ⟨ρ, by unfold forL; rfl, h⟩
  | cons x xs ih =>
    intro ρ h
    obtain ⟨ρ', e, h'⟩ := step 0 x ρ rfl h
    obtain ⟨ρ'', e2, h''⟩ := ih (fun i ρ => I (i + 1) ρ) (fun i y ρ hy hI => step (i + 1) y ρ (by simpa using hy) hI) h'
    refine ⟨ρ'', ?_, h''⟩
    unfold forL
    rw [o_bind, e]
    exact e2
theorem wBody_go {C : Nat → Option D} {F G : Nat → List D → Option D} {t : E} {b : Ss} {ρ0 ρ ρ' : Env} (h : ev optM C F G t ρ = some (.bool true)) (h2 : exs optM C F G b ρ = some (.nx ρ')) : wBody C F G t b ρ0 ρ = some (.inl (frz (esc true t) (msk ρ0 ρ'))) := by
  unfold wBody whlStep
  simp [h, h2]
theorem wBody_rt {C : Nat → Option D} {F G : Nat → List D → Option D} {t : E} {b : Ss} {ρ0 ρ : Env} {d : D} (h : ev optM C F G t ρ = some (.bool true)) (h2 : exs optM C F G b ρ = some (.rt d)) : wBody C F G t b ρ0 ρ = some (.inr (.rt d)) := by
  unfold wBody whlStep
  simp [h, h2]
theorem wBody_end {C : Nat → Option D} {F G : Nat → List D → Option D} {t : E} {b : Ss} {ρ0 ρ : Env} (h : ev optM C F G t ρ = some (.bool false)) : wBody C F G t b ρ0 ρ = some (.inr (.nx ρ)) := by
  unfold wBody whlStep
  simp [h]
theorem compL_map {g : D → Option (Option D)} {xs : List D} {f : D → Option D} (h : ∀ x ∈ xs, g x = some (f x)) : compL optM g xs = some (xs.filterMap f) := by
  induction xs with
  | nil => unfold compL; rfl
  | cons x xs ih =>
    unfold compL
    rw [o_bind, h x (by simp), ih fun y hy => h y (by simp [hy])]
    cases hf : f x <;> simp [hf]
end PV

set_option maxHeartbeats 4000000
/-! PV: the law's own draws: what _law_draws reckons. -/
namespace PV
open PySem PyProof.Rows L2 RZ

abbrev EM (o : Op2) (a b : E) : E := .bin o a b
def dr997 (e : E) : E := .bin .mod e (.int 997)
def drPre : Ss := .cons (.asg 2 (.lst .nil)) (.cons (.asg 3 (.int 7)) .nil)
def drB7 : Ss := .cons (.ite (.cmp .gt (.var 6) (.int 0)) (.cons (.app 2 (dr997 (.bi .int (.var 6)))) (.cons (.asg 6 (.bin .fdiv (.var 6) (.int 997))) .nil)) .nil) .nil
def drFor : S := .for_ (.nm 7) (.r1 (.int 60)) drB7
def drIf : S := .ite (.cmp .ge (.var 5) (.bin .pow (.int 10) (.int 18))) (.cons (.asg 6 (.var 5)) .nil)
  (.cons (.app 2 (dr997 (.bi .int (.var 5)))) (.cons (.app 2 (dr997 (.bin .mod (.bi .int (.bin .add (.bin .mul (.var 3) (.int 69621)) (.int 5))) (.int 65521)))) .nil))
def drBody : Ss := .cons (.asg 3 (.bin .mod (.bi .int (.bin .add (.bin .add (.bin .mul (.var 3) (.int 48271)) (.bin .mod (.var 5) (.int 1000003))) (.var 4))) (.int 65537)))
  (.cons (.asg 6 (.int 0)) (.cons drIf (.cons drFor .nil)))
def drB4 : Ss := .cons (.asg 3 (.bin .mod (.bi .int (.bin .add (.bin .add (.bin .mul (.var 3) (.int 16807)) (.var 4)) (.int 1))) (.int 65537))) (.cons (.app 2 (dr997 (.bi .int (.var 3)))) .nil)
def drPost : Ss := .cons (.for_ (.nm 4) (.r1 (.var 1)) drB4)
  (.cons (.ret (.sl (.var 2) .none (.var 1))) .nil)
def drE (v : V) (n : Int) (ds : List Int) (s3 s4 s5 s6 s7 : Slot) : Env := [.fx v, .sh (.int n), .ow (.list (ds.map .int)), s3, s4, s5, s6, s7]
section
variable {C : Nat → Option D} {F G : Nat → List D → Option D}
theorem sm (i : Int) (j : Int) (h : small64 j = true) : (small64 i || small64 j) = true := by rw [h, Bool.or_true]
theorem dr_for (v : V) (n : Int) (s3 s4 s5 s7 : Slot) (r : Int) (ds : List Int) (h : ds.length + 60 ≤ LINE) : ∃ (ds' : List Int) (r' : Int) (s7' : Slot), ex optM C F G drFor (drE v n ds s3 s4 s5 (.sh (.int r)) s7) = some (.nx (drE v n ds' s3 s4 s5 (.sh (.int r')) s7')) ∧ ds'.length ≤ ds.length + 60 := by
  have hok : okR 0 60 = true := by decide
  have key := forL_ind (g := fBody C F G (.nm 7) drB7)
    (ρ0 := drE v n ds s3 s4 s5 (.sh (.int r)) s7) (xs := rng 0 60) (fun i ρ => ∃ (ds' : List Int) (r' : Int) (s7' : Slot), ρ = drE v n ds' s3 s4 s5 (.sh (.int r')) s7' ∧ ds'.length ≤ ds.length + i) ?_ (ρ := drE v n ds s3 s4 s5 (.sh (.int r)) s7) ⟨ds, r, s7, rfl, by omega⟩
  · obtain ⟨ρ', e, ds', r', s7', rfl, hl⟩ := key
    refine ⟨ds', r', s7', ?_, by simpa [rng] using hl⟩
    unfold drFor
    rw [x_for]
    simp only [oS_r1, o_int, Option.bind_some, int_int, hok, if_true, escF, esc, frz_nil]
    exact e
  · rintro i x ρ hx ⟨ds', r', s7', rfl, hl⟩
    have hi := (rng_get hx).1
    have hl2 : ds'.length < LINE := by simp at hi; omega
    by_cases hr : 0 < r'
    · refine ⟨_, by simp [fBody, drB7, drE, dr997, esc, hr, hl2]; rfl, ds' ++ [r'.fmod 997], r'.fdiv 997, _, by simp [drE]; rfl, by simp; omega⟩
    · refine ⟨_, by simp [fBody, drB7, drE, dr997, esc, hr]; rfl, ds', r', _, by simp [drE]; rfl, by omega⟩
theorem dr_body (v : V) (n m k c : Int) (s6 s7 : Slot) (ds : List Int) (h : ds.length + 62 ≤ LINE) : ∃ (ds' : List Int) (m' : Int) (s6' s7' : Slot), exs optM C F G drBody (drE v n ds (.sh (.int m)) (.sh (.int k)) (.sh (.int c)) s6 s7) = some (.nx (drE v n ds' (.sh (.int m')) (.sh (.int k)) (.sh (.int c)) s6' s7')) ∧ ds'.length ≤ ds.length + 62 := by
  have h1 : small64 48271 = true := by decide
  have h2 : small64 69621 = true := by decide
  have h3 : dBin .pow (.int 10) (.int 18) = some (.int 1000000000000000000) := by
    show (if (0 : Int) ≤ 18 ∧ (18 : Int) ≤ 1000000 ∧ (10 : Int).natAbs < 18446744073709551616 then some (PyData.int (10 ^ (18 : Int).toNat)) else none) = _
    rw [if_pos (by decide)]
    rfl
  have l1 : ds.length < LINE := by omega
  have l2 : ds.length + 1 < LINE := by omega
  generalize hm : (m * 48271 + c.fmod 1000003 + k).fmod 65537 = m2
  have h4 : small64 m2 = true ∨ True := .inr trivial
  by_cases hc : 1000000000000000000 ≤ c
  · obtain ⟨ds', r', s7', e, hl⟩ := dr_for (C := C) (F := F) (G := G) v n (.sh (.int m2)) (.sh (.int k)) (.sh (.int c)) s7 c ds (by omega)
    refine ⟨ds', m2, .sh (.int r'), s7', ?_, by omega⟩
    unfold drBody drIf
    simp only [drE] at e
    simp [drE, dr997, esc, h1, h2, h3, hm, hc, l1, l2, e]
  · obtain ⟨ds', r', s7', e, hl⟩ := dr_for (C := C) (F := F) (G := G) v n (.sh (.int m2)) (.sh (.int k)) (.sh (.int c)) s7 0 (ds ++ [c.fmod 997, ((m2 * 69621 + 5).fmod 65521).fmod 997]) (by simp; omega)
    refine ⟨ds', m2, .sh (.int r'), s7', ?_, by simp at hl; omega⟩
    unfold drBody drIf
    simp only [drE] at e
    simp [drE, dr997, esc, h1, h2, h3, hm, hc, l1, l2] at e ⊢
    simp [e]
theorem dr_post (v : V) (n m : Int) (s4 s5 s6 s7 : Slot) (ds : List Int) (hn : 0 ≤ n ∧ n ≤ 1000) (h : ds.length + 1000 ≤ LINE) : ∃ (ds' : List Int), exs optM C F G drPost (drE v n ds (.sh (.int m)) s4 s5 s6 s7) = some (.rt (.list (ds'.map .int))) := by
  have h1 : small64 16807 = true := by decide
  have hok : okR 0 n = true := by unfold okR LINE; exact decide_eq_true (by omega)
  have key := forL_ind (g := fBody C F G (.nm 4) drB4)
    (ρ0 := drE v n ds (.sh (.int m)) s4 s5 s6 s7) (xs := rng 0 n) (fun i ρ => ∃ (ds' : List Int) (m' : Int) (s4' : Slot), ρ = drE v n ds' (.sh (.int m')) s4' s5 s6 s7 ∧ ds'.length ≤ ds.length + i) ?_ (ρ := drE v n ds (.sh (.int m)) s4 s5 s6 s7) ⟨ds, m, s4, rfl, by omega⟩
  · obtain ⟨ρ', e, ds', m', s4', rfl, hl⟩ := key
    refine ⟨cut ds' none (some n), ?_⟩
    unfold drPost
    simp only [xs_cons, x_for, oS_r1, o_int, o_var, Option.bind_some, int_int, hok, if_true, escF, esc, frz_nil]
    simp only [drE, getV_0, getV_s, val_sh, Option.bind_some, int_int, hok, if_true] at e ⊢
    rw [e]
    simp [esc, bound?, cut, List.map_take, List.map_drop]
  · rintro i x ρ hx ⟨ds', m', s4', rfl, hl⟩
    obtain ⟨hi, rfl⟩ := rng_get hx
    have hl2 : ds'.length < LINE := by omega
    refine ⟨_, by simp [fBody, drB4, drE, dr997, esc, hl2, h1]; rfl, ds' ++ [_], _, _, by simp [drE]; exact ⟨rfl, rfl, rfl⟩, by simp; omega⟩
end
end PV

set_option maxHeartbeats 4000000
/-! PV: _law_draws walked. -/
namespace PV
open PySem PyProof.Rows L2 RZ

theorem Sim.fixAt {K : PySem.W.Frag} {w : Wp} {iw : Nat} {O0 O : List Addr} {H0 H : Hp} {σ : L2.St} {ρ : Env} (S : Sim K w iw O0 H0 O H σ ρ) {i : Nat} {v : V} (h : σ[i]? = some (some v)) (hi : w = none ∨ i ≠ iw) : Sim K w iw O0 H0 O H σ (ρ.set i (.fx v)) := by
  have get : ∀ {j : Nat} {s : Slot}, (ρ.set i (.fx v))[j]? = some s → (j = i ∧ s = .fx v) ∨ (j ≠ i ∧ ρ[j]? = some s) := fun {j s} h => by
    by_cases e : i = j
    · subst e
      by_cases hl : i < ρ.length
      · rw [List.getElem?_set_self hl] at h
        exact .inl ⟨rfl, (Option.some.inj h).symm⟩
      · rw [List.getElem?_eq_none (by simpa using hl)] at h
        cases h
    · rw [List.getElem?_set_ne e] at h
      exact .inr ⟨fun z => e z.symm, h⟩
  refine ⟨by simp [S.len], fun j s hj => ?_, fun j l d1 d2 p a b c e => ?_, S.dom, S.dom0, S.sub, S.fresh, S.ent, S.w0, S.wO, fun t ht => ?_, fun j d p a b => ?_⟩
  · rcases get hj with ⟨rfl, rfl⟩ | ⟨_, hj⟩
    · show σ[j]?.join = some v
      rw [h]
      rfl
    · exact S.slot j s hj
  · rcases get a with ⟨_, z⟩ | ⟨_, a⟩
    · cases z
    · rcases get b with ⟨_, z⟩ | ⟨_, b⟩
      · cases z
      · exact S.inj j l d1 d2 p a b c e
  · rcases hi with z | z
    · rw [ht] at z; cases z
    · refine ⟨(S.wS t ht).1, ?_⟩
      rw [List.getElem?_set_ne z]
      exact (S.wS t ht).2
  · rcases get a with ⟨_, z⟩ | ⟨_, a⟩
    · cases z
    · exact S.own j d p a b
theorem Sim.fxv {K : PySem.W.Frag} {w : Wp} {iw : Nat} {O0 O : List Addr} {H0 H : Hp} {σ : L2.St} {ρ : Env} (S : Sim K w iw O0 H0 O H σ ρ) {i : Nat} {v : V} (h : ρ[i]? = some (.fx v)) : σ[i]? = some (some v) := join_some (S.slot i _ h)
/-- a statement whose reckoning is known -/
theorem tS_of {P : Pm} {K : PySem.W.Frag} {F G : Nat → List D → Option D} (hF : ∀ n ds, Gv (F n ds) (P.F n ds)) (hG : ∀ n ds, Gv (G n ds) (P.G n ds)) {s : S} {O0 O : List Addr} {H0 H : Hp} {σ : L2.St} {ρ : Env} {De : Ends} {f : Fl} (Sm : Sim K P.w P.iw O0 H0 O H σ ρ)
    (e : ex optM P.C F G s ρ = some f) (h : EndOk P K O0 H0 O H De f) : tS P K (P.ex s) De σ H :=
  ⟨O0, H0, O, ρ, fun g => g = f, Sm, gv_ex hF hG s ρ f e _ rfl, fun g hg => by rw [hg]; exact h⟩
theorem tSs_of {P : Pm} {K : PySem.W.Frag} {F G : Nat → List D → Option D} (hF : ∀ n ds, Gv (F n ds) (P.F n ds)) (hG : ∀ n ds, Gv (G n ds) (P.G n ds)) {s : Ss} {O0 O : List Addr} {H0 H : Hp} {σ : L2.St} {ρ : Env} {De : Ends} {f : Fl} (Sm : Sim K P.w P.iw O0 H0 O H σ ρ)
    (e : exs optM P.C F G s ρ = some f) (h : EndOk P K O0 H0 O H De f) : tS P K (P.exs s) De σ H :=
  ⟨O0, H0, O, ρ, fun g => g = f, Sm, gv_exs hF hG s ρ f e _ rfl, fun g hg => by rw [hg]; exact h⟩
def spDraws (K : PySem.W.Frag) : Sp := fun vs H Q _ => ∃ (a : Addr) (n : Int) (ns : List Int) (O : List Addr), vs = [.ref a, .int n] ∧ (0 ≤ n ∧ n ≤ 1000) ∧ ns.length ≤ 63 ∧ Dm O H ∧ SqL K (hid O H) a (ns.map .int) ∧
  ∀ (ms : List Int) (p : Addr) (H' : Hp), Le H H' → H' p = some (.lst (ms.map .int)) → p ∉ O → Q (.ref p) H'
def drN (m : Str) : List Str := ["script", "many", "draws", m, "k", "cell", "rest", "turn"]
def P0 : Pm := ⟨fun _ => none, fun _ _ _ => False, fun _ _ _ => False, none, 0⟩
theorem gv_none {α : Type} {x : W α} : Gv (none : Option α) x := fun a h => by cases h
def drSc (sc : Scope) (m : Str) : Bool := isLoc sc "script" && isLoc sc "k" && isLoc sc "cell" && (sc.names.lookup ("len" : Str) == some .globalImplicit) && (sc.names.lookup ("int" : Str) == some .globalImplicit) && (sc.names.lookup ("abs" : Str) == some .globalImplicit) && (sc.names.lookup ("range" : Str) == some .globalImplicit)
section
variable {PG : Program} {W0 : World} {K : PySem.W.Frag} {mg : Str → Option Value} {base : Heap} {k : Nat}
theorem ok_draws {st s0 s1 : Stmt} {bd post : List Stmt} {f : Addr} {fd : FuncData} {m : Str} {q1 q2 q3 q4 q5 q6 q7 q8 q9 q10 q11 q12 q13 q14 q15 q16 : Pos} (F : Fun K "_law_draws" "_law_draws" st f fd) (S : FnScope (drN m) ["script", "many"] (defScope st))
    (hb : defBody st = s0 :: s1 :: .For (.Name "k" q1) (.Call (.Name "range" q2) [.Call (.Name "len" q3) [.Name "script" q4] [] q5] [] q6) (.Assign [.Name "cell" q7] (.Call (.Name "abs" q8) [.Call (.Name "int" q9) [.Subscript (.Name "script" q10) (.Name "k" q11) q12] [] q13] [] q14) q15 :: bd) [] q16 :: post)
    (hs : drSc (defScope st) m = true) (c0 : chkSs ⟨drN m, defScope st, defScope st, 0, [], []⟩ drPre [s0, s1] = true) (c1 : chkSs ⟨drN m, defScope st, defScope st, 0, [], []⟩ drBody bd = true) (c2 : chkSs ⟨drN m, defScope st, defScope st, 0, [], []⟩ drPost post = true)
    (hm : ∀ x ∈ bltN, mg x = none) : FnOk PG W0 K mg base CX0 (k + 1) f fd ["script", "many"] (spDraws K) := by
  unfold drSc at hs
  simp only [Bool.and_eq_true, beq_iff_eq] at hs
  obtain ⟨⟨⟨⟨⟨⟨t1, t2⟩, t3⟩, t4⟩, t5⟩, t6⟩, t7⟩ := hs
  have md : Md PG W0 K mg base P0 [] [] k := ⟨hm, fun _ _ _ _ h => (by cases h), fun _ _ _ h => (by cases h), fun _ _ h => (by cases h)⟩
  refine F.ok S (fun vs H Q E h => by obtain ⟨a, n, ns, O, rfl, _⟩ := h; rfl) (fun cdv A outer s H vs Q E hr h => ?_)
  obtain ⟨a, n, ns, O, rfl, hn, hl, dm, hq, q⟩ := h
  have g := md.gd (E := E) (H := H) (outer := outer) (N := drN m) S hr
  have sim := sim_start (K := K) (w := none) (iw := 0) (O := O) (H := H) (N := drN m) (vs := [.ref a, .int n]) (ds := [.int n]) (pre := [.no]) (by simp [drN]) dm trivial (fun a h => by obtain ⟨t, ht, _⟩ := h; cases ht) (fun _ h => by simpa using h) (.cons (.int n) .nil) (by simp) (fun t ht => by cases ht)
  have sim := sim.fixAt (i := 0) (v := .ref a) rfl (.inl rfl)
  have sim : Sim K P0.w P0.iw O H O H (L2.start (drN m) [.ref a, .int n]) [.fx (.ref a), .sh (.int n), .no, .no, .no, .no, .no, .no] := sim
  have hGl : ∀ {x : Str}, (defScope st).names.lookup x = some .globalImplicit → isGl ⟨drN m, defScope st, defScope st, P0.iw, [], []⟩ x = true := fun {x} h => by
    unfold isGl
    rw [h]
    rfl
  have hc0 := c0
  unfold drPre chkSs at hc0
  rw [Bool.and_eq_true] at hc0
  obtain ⟨k0, hc0⟩ := hc0
  unfold chkSs at hc0
  rw [Bool.and_eq_true] at hc0
  obtain ⟨k1, _⟩ := hc0
  have pS : ∀ p, PE (cxOf CX0 PG W0 K mg base (drN m) "_law_draws" (defScope st) f cdv A outer s H E).nox (.Name "script" p) (tVar 0) := fun p => pe_var rfl (visB t1)
  have pK : ∀ p, PE (cxOf CX0 PG W0 K mg base (drN m) "_law_draws" (defScope st) f cdv A outer s H E).nox (.Name "k" p) (tVar 4) := fun p => pe_var rfl (visB t2)
  have loc : ∀ {x : Str}, isLoc (defScope st) x = true → Loc (defScope st) x := fun {x} h => by
    unfold isLoc at h
    rw [Bool.or_eq_true, beq_iff_eq, beq_iff_eq] at h
    exact h
  rw [hb]
  refine ⟨_, pss_cons (sSt g S.kind rfl PassesOwn.never _ k0) (pss_cons (sSt g S.kind rfl PassesOwn.never _ k1) (pss_cons
    (ps_for PassesOwn.never rfl (pi_range1 (g.gl (hGl t7)) (g.blt _ (by decide)) (pa_cons (pe_callB call_len_seq (g.gl (hGl t4)) (g.blt _ (by decide)) rfl (pa_cons (pS _) pa_nil)) pa_nil)) (pg_name (i := 4) S.nd rfl (loc t2) (.inl rfl))
      (pss_cons (ps_set (i := 5) S.nd rfl (loc t3) (pe_callB bi_abs (g.gl (hGl t6)) (g.blt _ (by decide)) rfl (pa_cons (pe_callTy bi_int (g.gl (hGl t5)) (g.blt _ (by decide)) rfl (pa_cons (pe_ix ix_list (pS _) (pK _) (fun _ _ => rfl)) pa_nil)) pa_nil)) rfl (.inl rfl)) (sSs g S.kind rfl PassesOwn.never drBody c1)))
    (sSs g S.kind rfl PassesOwn.never drPost c2))), ?_⟩
  have nn : ∀ (x : Nat) (ds : List D), Gv (none : Option D) ((fun _ _ _ => False : Nat → List D → W D) x ds) := fun _ _ => gv_none
  refine tS_of (F := fun _ _ => none) (G := fun _ _ => none) nn nn (f := .nx [.fx (.ref a), .sh (.int n), .ow (.list []), .no, .no, .no, .no, .no]) sim (by simp [esc, escs]) (fun O1 σ1 H1 S1 kp1 => ?_)
  refine tS_of (F := fun _ _ => none) (G := fun _ _ => none) nn nn (f := .nx [.fx (.ref a), .sh (.int n), .ow (.list []), .sh (.int 7), .no, .no, .no, .no]) S1 (by simp [esc]) (fun O2 σ2 H2 S2 kp2 => ?_)
  have kp0 := kp1.trans kp2
  have hq2 : ∀ {O' H'}, Kp O H O' H' → SqL K H' a (ns.map .int) := fun {O' H'} kp => (hid_le O' H').sl (kp.sl hq)
  refine ⟨.ref a, S2.fxv rfl, a, ns.map .int, rfl, .inl (hq2 kp0), (ns.map V.int).length, rfl, by rw [List.length_map]; omega, by rw [List.length_map]; omega, ?_⟩
  refine ⟨fun i j σ' H' => i + j = ns.length ∧ ∃ O' ds m' s4 s5 s6 s7, Sim K P0.w P0.iw O H O' H' σ' (drE (.ref a) n ds (.sh (.int m')) s4 s5 s6 s7) ∧ Kp O H O' H' ∧ ds.length ≤ 62 * i, ⟨ns.length, by omega, O2, [], 7, .no, .no, .no, .no, S2, kp0, by simp⟩, fun i j σ' H' hW => ?_⟩
  obtain ⟨hij, O', ds, m', s4, s5, s6, s7, S', kp', hds⟩ := hW
  by_cases hi : i < ns.length
  · refine .inr ⟨by show i < (((ns.map V.int).length : Nat) : Int).toNat; simp; exact hi, fun σ3 H3 => ∃ O' ds m' s4 s5 s6 s7, Sim K P0.w P0.iw O H O' H3 σ3 (drE (.ref a) n ds (.sh (.int m')) s4 s5 s6 s7) ∧ Kp O H O' H3 ∧ ds.length ≤ 62 * (i + 1), fun σ3 H3 hN => ⟨j - 1, by omega, by omega, hN⟩, fun x H'' hy => ?_⟩
    obtain ⟨rfl, rfl⟩ := hy
    have Sa := S'.setSh (i := 4) (v := .int (0 + i)) (d := .int (0 + i)) (.int _) (by decide)
    have e0 : (σ'.set 4 (some (.int (0 + (i : Int)))))[0]? = some (some (.ref a)) := Sa.fxv rfl
    have hlen := S'.len
    have e4 : (σ'.set 4 (some (.int (0 + (i : Int)))))[4]? = some (some (.int (0 + i))) := List.getElem?_set_self (by rw [hlen]; simp [drE])
    have hat : atI (ns.map V.int) (0 + (i : Int)) = some (.int ns[i]) := by
      rw [Int.zero_add]
      exact atI_nat (by rw [List.getElem?_map, List.getElem?_eq_getElem hi]; rfl)
    refine ⟨.ref a, e0, .int (0 + i), e4, a, ns.map .int, 0 + i, .int ns[i], rfl, rfl, hq2 kp', hat, [], .int ns[i], .int ns[i], .int ns[i], rfl, (fun _ h => by cases h), .inl (.int _), rfl, fun v H1 le1 rp1 _ => ?_⟩
    cases rp1
    refine ⟨[], .int ns[i], .int ns[i], .int (if ns[i] < 0 then -ns[i] else ns[i]), rfl, (fun _ h => by cases h), .inl (.int _), rfl, fun v H3 le2 rp2 _ => ?_⟩
    cases rp2
    have ex2 : Ext P0.w H'' H3 := Ext.of_le S'.wok (le1.trans le2)
    have Sb := (Sa.ext ex2).setSh (i := 5) (v := .int (if ns[i] < 0 then -ns[i] else ns[i])) (d := .int (if ns[i] < 0 then -ns[i] else ns[i])) (.int _) (by decide)
    have kp3 := kp'.trans (S'.kp ex2)
    obtain ⟨ds', m2, s6', s7', e, hd2⟩ := dr_body (C := P0.C) (F := fun _ _ => none) (G := fun _ _ => none) (.ref a) n m' (0 + i) (if ns[i] < 0 then -ns[i] else ns[i]) s6 s7 ds (by unfold LINE; omega)
    refine tSs_of (F := fun _ _ => none) (G := fun _ _ => none) nn nn Sb e (fun O4 σ4 H4 S4 kp4 => ?_)
    exact ⟨O4, ds', m2, _, _, s6', s7', S4, kp3.trans kp4, by omega⟩
  · refine .inl ⟨by show (((ns.map V.int).length : Nat) : Int).toNat ≤ i; simp; omega, ?_⟩
    obtain ⟨ms, e⟩ := dr_post (C := P0.C) (F := fun _ _ => none) (G := fun _ _ => none) (.ref a) n m' s4 s5 s6 s7 ds hn (by unfold LINE; omega)
    refine tSs_of (F := fun _ _ => none) (G := fun _ _ => none) nn nn S' e (fun v H3 r ex3 => ?_)
    cases r with
    | @lst p xs _ hp rr =>
      have hx := rr.ints (ints_map ms)
      subst hx
      exact q ms p H3 (fun b o hbo => ex3.1 b o (fun z => by obtain ⟨t, ht, _⟩ := z; cases ht) hbo) (hid_le _ _ _ _ hp) (hid_out hp)
end
end PV

set_option maxHeartbeats 4000000
/-! PV: the law's own def. -/
namespace PV
open PySem PyProof.Rows L2 RZ

def spLaw (K : PySem.W.Frag) : Sp := fun vs H Q _ => ∃ (a : Addr) (ns : List Int), vs = [.ref a] ∧ SqL K H a (ns.map .int) ∧ ns.length ≤ 63 ∧ ∀ H', Q (.bl true) H'
def lawSc (sc : Scope) : Bool := isLoc sc "script" && isLoc sc "w" && (sc.names.lookup ("_law_draws" : Str) == some .globalImplicit)
section
variable {PG : Program} {W0 : World} {K : PySem.W.Frag} {mg : Str → Option Value} {base : Heap} {k : Nat}
theorem ok_law {C : Nat → Option D} {F' G' : Nat → List D → W D} {fs : List (Nat × Str × Nat × Bool)} {gl : List (Nat × Str)} {N : List Str} {iw : Nat} (m : ∀ t, Md PG W0 K mg base ⟨C, F', G', some t, iw⟩ fs gl k) {st : Stmt} {rest : List Stmt} {f : Addr} {fd : FuncData} {n : Int} {q1 q2 q3 q4 q5 q6 q7 q8 q9 q10 : Pos}
    (F : Fun K "law" "law" st f fd) (S : FnScope N ["script"] (defScope st)) (hN0 : N[0]? = some ("script" : Str)) (hNw : N[iw]? = some ("w" : Str)) (hn : 0 ≤ n ∧ n ≤ 1000)
    (hb : defBody st = .Assign [.Name "w" q1] (.Dict [some (.Constant (.str "draws") 0 q2), some (.Constant (.str "at") 0 q3)] [.Call (.Name "_law_draws" q4) [.Name "script" q5, .Constant (.int n) 0 q6] [] q7, .Constant (.int 0) 0 q8] q9) q10 :: rest)
    (hs : lawSc (defScope st) = true) {b : Ss} (hc : chkSs ⟨N, defScope st, defScope st, iw, fs, gl⟩ b rest = true)
    {fa : Addr} {fad : FuncData} (hga : mg "_law_draws" = some (.ref fa)) (hka : PySem.W.keepIn K (.ref fa) = true) (hba : Binds K fad ["script", "many"] []) (Fa : FnOk PG W0 K mg base CX0 k fa fad ["script", "many"] (spDraws K))
    (hlaw : exs wM C F' G' b (List.replicate N.length Slot.no) fun g => g = .rt (.bool true)) : FnOk PG W0 K mg base CX0 (k + 1) f fd ["script"] (spLaw K) := by
  unfold lawSc at hs
  simp only [Bool.and_eq_true, beq_iff_eq] at hs
  obtain ⟨⟨t1, t2⟩, t3⟩ := hs
  have t2 : Loc (defScope st) "w" := by
    unfold isLoc at t2
    rw [Bool.or_eq_true, beq_iff_eq, beq_iff_eq] at t2
    exact t2
  refine F.ok S (fun vs H Q E h => by obtain ⟨a, ns, rfl, _⟩ := h; rfl) (fun cdv A outer s H vs Q E hr h => ?_)
  obtain ⟨a, ns, rfl, hq, hl, q⟩ := h
  rw [hb]
  -- the dict that is made is known behind the first statement alone
  refine ⟨tSeq (tAsg (tDisp [(tC (.str "draws"), tCall (spDraws K) [] E0 (tCons (tVar 0) (tCons (tC (.int n)) tNil))), (tC (.str "at"), tC (.int 0))]) (gName iw)) (fun De σ H => ∃ t, tS ⟨C, F', G', some t, iw⟩ K (exs wM C F' G' b) De σ H), ?_, ?_⟩
  · refine pss_cons (ps_set S.nd hNw t2 (pe_disp (pps_cons pe_str (pe_call (dvs := []) (E := E0) Fa hr t3 hga hka hba .nil pass0 (pa_cons (pe_var hN0 (visB t1)) (pa_cons pe_int pa_nil))) (pps_cons pe_str pe_int pps_nil)) rfl rfl (by simp) (by simp)) rfl (.inl rfl)) ?_
    exact ⟨fun pins s' σ H1 De I h => by
      obtain ⟨t, h⟩ := h
      exact (sSs ((m t).gd S hr) S.kind rfl PassesOwn.never b hc).run pins s' σ H1 De I h⟩
  · have hiw : iw < N.length := (List.getElem?_eq_some_iff.mp hNw).1
    have h0N : 0 < N.length := (List.getElem?_eq_some_iff.mp hN0).1
    have hst : (L2.start N [.ref a]).length = N.length := start_len (by simp; omega)
    intro p hp
    have e1 : (upd H p (.dK [])) p = some (.dK []) := by simp [upd]
    refine ⟨.ref a, start_get rfl, ?_⟩
    refine ⟨a, n, ns, [p], rfl, hn, hl, fun x hx => ?_, ?_, fun ms pd H1 le hpd hno => ?_⟩
    · have : x = p := by simpa using hx
      subst this
      rw [e1]
      simp
    · refine Le.sl (fun x o h => ?_) hq
      have ne : x ≠ p := fun z => by subst z; rw [hp] at h; cases h
      exact hid_in (by simpa using ne) (by rw [upd_ne ne]; exact h)
    · have hH1 : H1 p = some (.dK []) := le _ _ e1
      refine ⟨hH1, [(.inr "draws", .ref pd), (.inr "at", .int 0)], rfl, by simp, ?_⟩
      have nda : ¬ (Str.ofString "draws" = Str.ofString "at") := by decide
      have em : mergeK [] [(Sum.inr (Str.ofString "draws"), V.ref pd), (Sum.inr (Str.ofString "at"), V.int 0)] = [(Sum.inr (Str.ofString "draws"), V.ref pd), (Sum.inr (Str.ofString "at"), V.int 0)] := by
        simp [mergeK, putK, nda]
      rw [em]
      generalize hH2 : upd H1 p (.dK [(Sum.inr (Str.ofString "draws"), V.ref pd), (Sum.inr (Str.ofString "at"), V.int 0)]) = H2
      have npd : pd ≠ p := fun z => hno (by simp [z])
      have w1 : H2 p = some (.dK [(Sum.inr (Str.ofString "draws"), V.ref pd), (Sum.inr (Str.ofString "at"), V.int 0)]) := by rw [← hH2]; simp [upd]
      have w2 : H2 pd = some (.lst (ms.map .int)) := by rw [← hH2, upd_ne npd]; exact hpd
      have wk : WOk (some (p, pd, ms)) H2 := ⟨0, by omega, w1, w2⟩
      refine ⟨(p, pd, ms), [p], H2, [p], List.replicate N.length Slot.no, _, ⟨by simp [hst], fun i sl h => ?_, fun i j d d' x h => ?_, fun x hx => ?_, fun x hx => ?_, fun _ h => h, fun _ h => .inl h, Ext.refl wk, wk, fun x hx => ?_, fun t ht => ?_, fun i d x h => ?_⟩, hlaw, fun g hg => ?_⟩
      · have := (List.mem_replicate.mp (List.mem_of_getElem? h)).2
        subst this
        trivial
      · have := (List.mem_replicate.mp (List.mem_of_getElem? h)).2
        cases this
      · have : x = p := by simpa using hx
        subst this
        rw [w1]
        simp
      · have : x = p := by simpa using hx
        subst this
        rw [w1]
        simp
      · obtain ⟨t, ht, rfl⟩ := hx
        cases ht
        simp
      · cases ht
        refine ⟨List.getElem?_set_self (by rw [hst]; exact hiw), ?_⟩
        rw [List.getElem?_replicate, if_pos hiw]
      · have := (List.mem_replicate.mp (List.mem_of_getElem? h)).2
        cases this
      · subst hg
        intro v H' r _
        cases r
        exact q H'
end
end PV

set_option maxHeartbeats 4000000
/-! PV: the table of a law's defs; data of a known make. -/
namespace PV
open PySem PyProof.Rows L2 RZ

/-- the def x stands behind the top -/
def Has (K : PySem.W.Frag) (mg : Str → Option Value) (x : Str) (st : Stmt) : Prop := ∃ a fd, mg x = some (.ref a) ∧ PySem.W.keepIn K (.ref a) = true ∧ Fun K x x st a fd
/-- .. and keeps a promise -/
def DefOk (PG : Program) (W0 : World) (K : PySem.W.Frag) (mg : Str → Option Value) (base : Heap) (k : Nat) (x : Str) (sp : Sp) : Prop := ∃ a fd ps, mg x = some (.ref a) ∧ PySem.W.keepIn K (.ref a) = true ∧ Binds K fd ps [] ∧ FnOk PG W0 K mg base CX0 k a fd ps sp
/-- how arguments bind -/
def Bnd (x : Str) (st : Stmt) (ps : List Str) : Prop := ∀ (kV doc pm : Value) (an : Option Addr) (cdv ct : Value) (us : List Value), us.length = ps.length → bindArgs (PySem.W.fnOf x x (defArgs st) (defBody st) (defScope st) .none kV doc pm an cdv ct) ⟨us, []⟩ = pure (ps.zip us)
def ofO (o : Option D) : W D := fun R => ∃ d, o = some d ∧ R d
theorem gv_ofO (o : Option D) : Gv o (ofO o) := fun a h Q q => ⟨a, h, q⟩
section
variable {PG : Program} {W0 : World} {K : PySem.W.Frag} {mg : Str → Option Value} {base : Heap} {k j : Nat} {x : Str} {st : Stmt} {N ps : List Str}
theorem DefOk.mono {sp : Sp} (h : DefOk PG W0 K mg base j x sp) (le : j ≤ k) : DefOk PG W0 K mg base k x sp := by
  obtain ⟨a, fd, ps, h1, h2, h3, h4⟩ := h
  exact ⟨a, fd, ps, h1, h2, h3, h4.mono le⟩
theorem mk_pure {C : Nat → Option D} {T : Nat → List D → Option D} {GG : Nat → List D → W D} {fs : List (Nat × Str × Nat × Bool)} {gl : List (Nat × Str)} (h : Has K mg x st) (hbd : Bnd x st ps) (m : Md PG W0 K mg base ⟨C, fun n ds => ofO (T n ds), GG, none, 1000⟩ fs gl k) (S : FnScope N ps (defScope st)) (hps : ps.length ≤ N.length) {b : Ss}
    (hc : chkSs ⟨N, defScope st, defScope st, 1000, fs, gl⟩ b (defBody st) = true) {i : Nat} (hr : ∀ ds d, T i ds = some d → run optM C T (fun _ _ => none) N.length b ds = some d) : DefOk PG W0 K mg base (k + 1) x (spF ps.length (fun ds => ofO (T i ds)) K) := by
  obtain ⟨a, fd, h1, h2, F⟩ := h
  refine ⟨a, fd, ps, h1, h2, F.binds hbd, fn_pure m rfl F S hps hc fun ds R q => ?_⟩
  obtain ⟨d, hd, q⟩ := q
  exact gv_run (fun n ds => gv_ofO _) (fun n ds => gv_none) N.length b ds d (hr ds d hd) R q
theorem mk_w {C : Nat → Option D} {F' GG : Nat → List D → W D} {fs : List (Nat × Str × Nat × Bool)} {gl : List (Nat × Str)} (h : Has K mg x st) (hbd : Bnd x st ps) (m : ∀ t, Md PG W0 K mg base ⟨C, F', GG, some t, 0⟩ fs gl k) (S : FnScope N ps (defScope st)) (hps : ps.length ≤ N.length) {b : Ss}
    (hc : chkSs ⟨N, defScope st, defScope st, 0, fs, gl⟩ b (defBody st) = true) {f' : List D → W D} (hr : ∀ ds R, f' ds R → exs wM C F' GG b (.no :: (ds.map Slot.sh ++ List.replicate (N.length - (1 + ds.length)) Slot.no)) fun f => (match f with
    | .nx _ => wM.pure PyData.none
    | .rt d => wM.pure d
    | .bk _ => wM.fail) R) : DefOk PG W0 K mg base (k + 1) x (spG ps.length f' K) := by
  obtain ⟨a, fd, h1, h2, F⟩ := h
  exact ⟨a, fd, ps, h1, h2, F.binds hbd, fn_w m F S hps hc hr⟩
end

/-! ### data of a known make -/
structure Cod (α : Type) where
  enc : α → D
  dec : D → Option α
  he : ∀ a, dec (enc a) = some a
  hd : ∀ d a, dec d = some a → enc a = d
def cInt : Cod Int := ⟨.int, int?, fun _ => rfl, fun d a h => (int_some h).symm⟩
def cBool : Cod Bool := ⟨.bool, bool?, fun _ => rfl, fun d a h => (bool_some h).symm⟩
def decAll {α : Type} (f : D → Option α) : List D → Option (List α)
  | [] => some []
  | d :: ds => (f d).bind fun a => (decAll f ds).map (a :: ·)
theorem decAll_enc {α : Type} (c : Cod α) : ∀ xs : List α, decAll c.dec (xs.map c.enc) = some xs
  | [] => rfl
  | x :: xs => by
    rw [List.map_cons]
    unfold decAll
    rw [c.he, decAll_enc c xs]
    rfl
theorem decAll_dec {α : Type} (c : Cod α) : ∀ (ds : List D) (xs : List α), decAll c.dec ds = some xs → xs.map c.enc = ds
  | [], xs, h => by
    cases h
    rfl
  | d :: ds, xs, h => by
    unfold decAll at h
    cases e : c.dec d with
    | none => rw [e] at h; cases h
    | some a =>
      rw [e] at h
      cases e2 : decAll c.dec ds with
      | none => rw [e2] at h; cases h
      | some ys =>
        rw [e2] at h
        cases h
        rw [List.map_cons, c.hd d a e, decAll_dec c ds ys e2]
def cL {α : Type} (c : Cod α) : Cod (List α) where
  enc xs := .list (xs.map c.enc)
  dec
    | .list ds => decAll c.dec ds
    | _ => none
  he xs := decAll_enc c xs
  hd d xs h := by
    cases d <;> first | cases h | exact congrArg PyData.list (decAll_dec c _ _ h)
def cT {α : Type} (c : Cod α) : Cod (List α) where
  enc xs := .tuple (xs.map c.enc)
  dec
    | .tuple ds => decAll c.dec ds
    | _ => none
  he xs := decAll_enc c xs
  hd d xs h := by
    cases d <;> first | cases h | exact congrArg PyData.tuple (decAll_dec c _ _ h)
def c2 {α β : Type} (a : Cod α) (b : Cod β) : Cod (α × β) where
  enc p := .tuple [a.enc p.1, b.enc p.2]
  dec
    | .tuple [x, y] => (a.dec x).bind fun u => (b.dec y).map fun v => (u, v)
    | _ => none
  he p := by simp [a.he, b.he]
  hd d p h := by
    split at h
    · rename_i x y
      cases e1 : a.dec x with
      | none => rw [e1] at h; cases h
      | some u =>
        rw [e1] at h
        cases e2 : b.dec y with
        | none => rw [e2] at h; cases h
        | some v =>
          rw [e2] at h
          cases h
          rw [← a.hd _ _ e1, ← b.hd _ _ e2]
    · cases h
def c3 {α β γ : Type} (a : Cod α) (b : Cod β) (c : Cod γ) : Cod (α × β × γ) where
  enc p := .tuple [a.enc p.1, b.enc p.2.1, c.enc p.2.2]
  dec
    | .tuple [x, y, z] => (a.dec x).bind fun u => (b.dec y).bind fun v => (c.dec z).map fun w => (u, v, w)
    | _ => none
  he p := by simp [a.he, b.he, c.he]
  hd d p h := by
    split at h
    · rename_i x y z
      cases e1 : a.dec x with
      | none => rw [e1] at h; cases h
      | some u =>
        rw [e1] at h
        cases e2 : b.dec y with
        | none => rw [e2] at h; cases h
        | some v =>
          rw [e2] at h
          cases e3 : c.dec z with
          | none => rw [e3] at h; cases h
          | some w =>
            rw [e3] at h
            cases h
            rw [← a.hd _ _ e1, ← b.hd _ _ e2, ← c.hd _ _ e3]
    · cases h
end PV

set_option maxHeartbeats 4000000
/-! PV: helps for reckoning on data of a known make. -/
namespace PV
open PySem

def cNat : Cod Nat where
  enc n := .int n
  dec
    | .int i => if 0 ≤ i then some i.toNat else none
    | _ => none
  he n := by simp
  hd d n h := by
    cases d <;> simp at h
    obtain ⟨h1, h2⟩ := h
    subst h2
    simp [Int.toNat_of_nonneg h1]
@[simp] theorem e_int (i : Int) : cInt.enc i = .int i := rfl
@[simp] theorem e_nat (i : Nat) : cNat.enc i = .int i := rfl
@[simp] theorem e_bool (i : Bool) : cBool.enc i = .bool i := rfl
@[simp] theorem e_L {α : Type} (c : Cod α) (xs : List α) : (cL c).enc xs = .list (xs.map c.enc) := rfl
@[simp] theorem e_T {α : Type} (c : Cod α) (xs : List α) : (cT c).enc xs = .tuple (xs.map c.enc) := rfl
@[simp] theorem e_2 {α β : Type} (a : Cod α) (b : Cod β) (p : α × β) : (c2 a b).enc p = .tuple [a.enc p.1, b.enc p.2] := rfl
@[simp] theorem e_3 {α β γ : Type} (a : Cod α) (b : Cod β) (c : Cod γ) (p : α × β × γ) : (c3 a b c).enc p = .tuple [a.enc p.1, b.enc p.2.1, c.enc p.2.2] := rfl

@[simp] theorem at1_0 {α : Type} {x : α} : L2.atI [x] 0 = some x := rfl
@[simp] theorem at2_0 {α : Type} {x y : α} : L2.atI [x, y] 0 = some x := rfl
@[simp] theorem at2_1 {α : Type} {x y : α} : L2.atI [x, y] 1 = some y := rfl
@[simp] theorem at3_0 {α : Type} {x y z : α} : L2.atI [x, y, z] 0 = some x := rfl
@[simp] theorem at3_1 {α : Type} {x y z : α} : L2.atI [x, y, z] 1 = some y := rfl
@[simp] theorem at3_2 {α : Type} {x y z : α} : L2.atI [x, y, z] 2 = some z := rfl
@[simp] theorem at_last {α : Type} {xs : List α} {x : α} : L2.atI (xs ++ [x]) (-1) = some x := L2.atI_last _ _
@[simp] theorem dPop_app {xs : List D} {x : D} : dPop (.list (xs ++ [x])) = some (x, .list xs) := by simp [dPop]
@[simp] theorem forL_nil {g : D → Env → Option Fl} {ρ0 ρ : Env} : forL optM g ρ0 [] ρ = some (.nx ρ) := by unfold forL; rfl
@[simp] theorem rng_self {i : Int} : rng i i = [] := by simp [rng]
theorem atI_get {α : Type} {xs : List α} {i : Nat} (h : i < xs.length) : L2.atI xs (i : Int) = some xs[i] := L2.atI_nat (List.getElem?_eq_getElem h)
theorem cut_nat {α : Type} (xs : List α) (a b : Nat) : cut xs (some (a : Int)) (some (b : Int)) = (xs.drop a).take (b - a) := by
  unfold cut
  rw [HT.sIx_nat, HT.sIx_nat]
  by_cases h : a ≤ xs.length
  · rw [Nat.min_eq_left h]
    by_cases h2 : b ≤ xs.length
    · rw [Nat.min_eq_left h2]
    · have e : min b xs.length = xs.length := Nat.min_eq_right (by omega)
      rw [e, List.take_of_length_le (by simp), List.take_of_length_le (by simp; omega)]
  · have e : min a xs.length = xs.length := Nat.min_eq_right (by omega)
    rw [e, List.drop_of_length_le (Nat.le_refl _), List.drop_of_length_le (by omega)]
    simp
theorem cut_from {α : Type} (xs : List α) (a : Nat) : cut xs (some (a : Int)) none = xs.drop a := by
  unfold cut
  rw [HT.sIx_nat, HT.sIx_none]
  by_cases h : a ≤ xs.length
  · rw [Nat.min_eq_left h, List.take_of_length_le (by simp)]
  · have e : min a xs.length = xs.length := Nat.min_eq_right (by omega)
    rw [e, List.drop_of_length_le (Nat.le_refl _), List.drop_of_length_le (by omega)]
    simp
theorem cut_to {α : Type} (xs : List α) (b : Nat) : cut xs none (some (b : Int)) = xs.take b := by
  unfold cut
  rw [HT.sIx_nat, HT.sIx_none]
  simp
theorem compL_enc {α : Type} {g : D → Option (Option D)} {xs : List α} {e : α → D} {f : α → Option D} (h : ∀ x ∈ xs, g (e x) = some (f x)) : compL optM g (xs.map e) = some (xs.filterMap f) := by
  induction xs with
  | nil => rfl
  | cons x xs ih =>
    rw [List.map_cons]
    unfold compL
    rw [o_bind, h x (by simp), ih fun y hy => h y (by simp [hy])]
    cases hf : f x <;> simp [hf]
theorem compL_all {α : Type} {g : D → Option (Option D)} {xs : List α} {e : α → D} {f : α → D} (h : ∀ x ∈ xs, g (e x) = some (some (f x))) : compL optM g (xs.map e) = some (xs.map f) := by
  rw [compL_enc (f := fun x => some (f x)) h]
  simp
theorem compL_fil {α : Type} {g : D → Option (Option D)} {xs : List α} {e : α → D} {f : α → D} {p : α → Bool} (h : ∀ x ∈ xs, g (e x) = some (if p x = true then some (f x) else none)) : compL optM g (xs.map e) = some ((xs.filter p).map f) := by
  rw [compL_enc h]
  congr 1
  clear h
  induction xs with
  | nil => rfl
  | cons x xs ih =>
    by_cases hp : p x = true
    · rw [List.filter_cons_of_pos hp, List.map_cons, List.filterMap_cons_some (by rw [if_pos hp]), ih]
    · rw [List.filter_cons_of_neg hp, List.filterMap_cons_none (by rw [if_neg hp]), ih]
theorem forL_fold {α τ : Type} {g : D → Env → Option Fl} {ρ0 : Env} (e : α → D) (st : τ → Env) (step : τ → α → τ) (I : τ → List α → Prop)
    (h : ∀ s x xs, I s (x :: xs) → (∃ ρ', g (e x) (st s) = some (.nx ρ') ∧ msk ρ0 ρ' = st (step s x)) ∧ I (step s x) xs) : ∀ xs s, I s xs → forL optM g ρ0 (xs.map e) (st s) = some (.nx (st (xs.foldl step s)))
  | [], s, _ => by unfold forL; rfl
  | x :: xs, s, hI => by
    obtain ⟨⟨ρ', h1, h2⟩, h3⟩ := h s x xs hI
    rw [List.map_cons]
    unfold forL
    rw [o_bind, h1]
    show forL optM g ρ0 (xs.map e) (msk ρ0 ρ') = _
    rw [h2]
    exact forL_fold e st step I h xs (step s x) h3
theorem rng_map (i j : Int) : rng i j = (List.range (j - i).toNat).map fun (k : Nat) => .int (i + k) := rfl
/-- a while by its steps -/
theorem whO_go {step : Env → Option (Env ⊕ Fl)} {τ : Type} (st : τ → Env) (μ : τ → Nat) (nxt : τ → τ) (c : τ → Bool) (I : τ → Prop) (h : ∀ s, I s → (c s = true → step (st s) = some (.inl (st (nxt s))) ∧ I (nxt s) ∧ μ (nxt s) < μ s) ∧ (c s = false → step (st s) = some (.inr (.nx (st s))))) :
    ∀ (n : Nat) (s : τ), μ s ≤ n → I s → ∃ s', whO step (st s) = some (.nx (st s')) ∧ I s' ∧ c s' = false
  | n, s, hn, hI => by
    cases hc : c s with
    | false => exact ⟨s, whO_end ((h s hI).2 hc), hI, hc⟩
    | true =>
      obtain ⟨h1, h2, h3⟩ := (h s hI).1 hc
      cases n with
      | zero => omega
      | succ n =>
        obtain ⟨s', e, q⟩ := whO_go st μ nxt c I h n (nxt s) (by omega) h2
        exact ⟨s', by rw [whO_next h1]; exact e, q⟩
def loopN {τ : Type} (nxt : τ → τ) (c : τ → Bool) : Nat → τ → τ
  | 0, s => s
  | n + 1, s => if c s = true then loopN nxt c n (nxt s) else s
theorem whO_loop {step : Env → Option (Env ⊕ Fl)} {τ : Type} (st : τ → Env) (μ : τ → Nat) (nxt : τ → τ) (c : τ → Bool) (I : τ → Prop) (h : ∀ s, I s → (c s = true → step (st s) = some (.inl (st (nxt s))) ∧ I (nxt s) ∧ μ (nxt s) < μ s) ∧ (c s = false → step (st s) = some (.inr (.nx (st s))))) :
    ∀ (n : Nat) (s : τ), μ s ≤ n → I s → whO step (st s) = some (.nx (st (loopN nxt c n s))) ∧ I (loopN nxt c n s) ∧ c (loopN nxt c n s) = false
  | n, s, hn, hI => by
    cases hc : c s with
    | false =>
      have e : loopN nxt c n s = s := by
        cases n with
        | zero => rfl
        | succ n => simp [loopN, hc]
      rw [e]
      exact ⟨whO_end ((h s hI).2 hc), hI, hc⟩
    | true =>
      obtain ⟨h1, h2, h3⟩ := (h s hI).1 hc
      cases n with
      | zero => omega
      | succ n =>
        have e : loopN nxt c (n + 1) s = loopN nxt c n (nxt s) := by simp [loopN, hc]
        rw [e, whO_next h1]
        exact whO_loop st μ nxt c I h n (nxt s) (by omega) h2
theorem loopN_ind {τ : Type} {nxt : τ → τ} {c : τ → Bool} (J : τ → Prop) (h : ∀ s, J s → c s = true → J (nxt s)) : ∀ (n : Nat) (s : τ), J s → J (loopN nxt c n s)
  | 0, s, hJ => hJ
  | n + 1, s, hJ => by
    unfold loopN
    by_cases hc : c s = true
    · rw [if_pos hc]
      exact loopN_ind J h n (nxt s) (h s hJ hc)
    · rw [if_neg hc]
      exact hJ
theorem run_of {C : Nat → Option D} {F G : Nat → List D → Option D} {n : Nat} {b : Ss} {args : List D} {d : D} (h : exs optM C F G b (args.map Slot.sh ++ List.replicate (n - args.length) Slot.no) = some (.rt d)) : run optM C F G n b args = some d := by
  unfold run
  rw [o_bind, h]
  rfl
end PV

set_option maxHeartbeats 4000000
/-! PV: data of a known make compared, least, sorted. -/
namespace PV
open PySem PySem.W PyProof.Rows

mutual
theorem shal_mono : ∀ (d : D) {n m : Nat}, n ≤ m → shal n d = true → shal m d = true
  | .none, n, m, _, _ => by cases m <;> rfl
  | .bool _, n, m, _, _ => by cases m <;> rfl
  | .int _, n, m, _, _ => by cases m <;> rfl
  | .str _, n, m, _, _ => by cases m <;> rfl
  | .list xs, n, m, h, hs => by
    cases n with
    | zero => cases hs
    | succ n =>
      cases m with
      | zero => omega
      | succ m => exact shals_mono xs (by omega) hs
  | .tuple xs, n, m, h, hs => by
    cases n with
    | zero => cases hs
    | succ n =>
      cases m with
      | zero => omega
      | succ m => exact shals_mono xs (by omega) hs
  | .dict _, n, m, _, hs => by cases n <;> cases hs
theorem shals_mono : ∀ (xs : List D) {n m : Nat}, n ≤ m → xs.all (shal n) = true → xs.all (shal m) = true
  | [], _, _, _, _ => rfl
  | x :: xs, n, m, h, hs => by
    rw [List.all_cons, Bool.and_eq_true] at hs ⊢
    exact ⟨shal_mono x h hs.1, shals_mono xs h hs.2⟩
end
structure CodOk {α : Type} (c : Cod α) (n : Nat) : Prop where
  sh : ∀ a, shal n (c.enc a) = true
  eqv : ∀ a b, PyData.eqv (c.enc a) (c.enc b) = true ↔ a = b
  al : ∀ a b, alike (c.enc a) (c.enc b) = true
  nn : ∀ a, isN (c.enc a) = false
theorem enc_inj {α : Type} (c : Cod α) {a b : α} (h : c.enc a = c.enc b) : a = b := by
  have := c.he a
  rw [h, c.he b] at this
  exact (Option.some.inj this).symm
theorem ok_int : CodOk cInt 0 := ⟨fun _ => rfl, fun a b => by simp [PyData.eqv], fun a b => by simp [alike], fun _ => rfl⟩
theorem ok_nat : CodOk cNat 0 := ⟨fun _ => rfl, fun a b => by simp [PyData.eqv]; omega, fun a b => by simp [alike], fun _ => rfl⟩
theorem ok_bool : CodOk cBool 0 := ⟨fun _ => rfl, fun a b => by simp [PyData.eqv], fun a b => by simp [alike], fun _ => rfl⟩
section
variable {α β γ : Type} {c : Cod α} {c' : Cod β} {c'' : Cod γ} {n m k : Nat}
theorem CodOk.all (h : CodOk c n) (xs : List α) : (xs.map c.enc).all (shal n) = true := by
  rw [List.all_eq_true]
  intro d hd
  obtain ⟨a, _, rfl⟩ := List.mem_map.mp hd
  exact h.sh a
theorem CodOk.eqvs (h : CodOk c n) : ∀ xs ys : List α, PyData.eqvAll (xs.map c.enc) (ys.map c.enc) = true ↔ xs = ys
  | [], [] => by simp [PyData.eqvAll]
  | [], _ :: _ => by simp [PyData.eqvAll]
  | _ :: _, [] => by simp [PyData.eqvAll]
  | x :: xs, y :: ys => by
    rw [List.map_cons, List.map_cons, PyData.eqvAll, Bool.and_eq_true, h.eqv, h.eqvs xs ys]
    simp
theorem CodOk.als (h : CodOk c n) : ∀ xs ys : List α, alikeAll (xs.map c.enc) (ys.map c.enc) = true
  | [], _ => by simp [alikeAll]
  | _ :: _, [] => by simp [alikeAll]
  | x :: xs, y :: ys => by
    rw [List.map_cons, List.map_cons, alikeAll, h.al, h.als xs ys]
    rfl
theorem ok_L (h : CodOk c n) : CodOk (cL c) (n + 1) := ⟨fun a => h.all a, fun a b => by rw [e_L, e_L, PyData.eqv]; exact h.eqvs a b, fun a b => by rw [e_L, e_L, alike]; exact h.als a b, fun _ => rfl⟩
theorem ok_T (h : CodOk c n) : CodOk (cT c) (n + 1) := ⟨fun a => h.all a, fun a b => by rw [e_T, e_T, PyData.eqv]; exact h.eqvs a b, fun a b => by rw [e_T, e_T, alike]; exact h.als a b, fun _ => rfl⟩
theorem ok_2 (h : CodOk c n) (h' : CodOk c' m) (e1 : n ≤ k) (e2 : m ≤ k) : CodOk (c2 c c') (k + 1) where
  sh a := by
    show [c.enc a.1, c'.enc a.2].all (shal k) = true
    simp [shal_mono _ e1 (h.sh a.1), shal_mono _ e2 (h'.sh a.2)]
  eqv a b := by
    rw [e_2, e_2, PyData.eqv, PyData.eqvAll, PyData.eqvAll, PyData.eqvAll]
    simp [h.eqv, h'.eqv, Prod.ext_iff]
  al a b := by
    rw [e_2, e_2, alike, alikeAll, alikeAll, alikeAll, h.al, h'.al]
    rfl
  nn a := rfl
theorem ok_3 {j : Nat} (h : CodOk c n) (h' : CodOk c' m) (h'' : CodOk c'' j) (e1 : n ≤ k) (e2 : m ≤ k) (e3 : j ≤ k) : CodOk (c3 c c' c'') (k + 1) where
  sh a := by
    show [c.enc a.1, c'.enc a.2.1, c''.enc a.2.2].all (shal k) = true
    simp [shal_mono _ e1 (h.sh a.1), shal_mono _ e2 (h'.sh a.2.1), shal_mono _ e3 (h''.sh a.2.2)]
  eqv a b := by
    rw [e_3, e_3, PyData.eqv, PyData.eqvAll, PyData.eqvAll, PyData.eqvAll, PyData.eqvAll]
    simp [h.eqv, h'.eqv, h''.eqv, Prod.ext_iff]
  al a b := by
    rw [e_3, e_3, alike, alikeAll, alikeAll, alikeAll, alikeAll, h.al, h'.al, h''.al]
    rfl
  nn a := rfl
theorem CodOk.sh20 (h : CodOk c n) (hn : n ≤ 20) (a : α) : PV.sh (c.enc a) = true := shal_mono _ hn (h.sh a)
theorem CodOk.shs20 (h : CodOk c n) (hn : n ≤ 20) (xs : List α) : shs (xs.map c.enc) = true := shals_mono _ hn (h.all xs)
theorem CodOk.eqd [DecidableEq α] (h : CodOk c n) (a b : α) : PyData.eqv (c.enc a) (c.enc b) = decide (a = b) := by
  have := h.eqv a b
  by_cases e : a = b
  · rw [decide_eq_true e, this.mpr e]
  · rw [decide_eq_false e]
    cases q : PyData.eqv (c.enc a) (c.enc b) with
    | false => rfl
    | true => exact absurd (this.mp q) e
theorem d_eq [DecidableEq α] (h : CodOk c n) (hn : n ≤ 20) (a b : α) : dCmp .eq (c.enc a) (c.enc b) = some (decide (a = b)) := by
  show (if (sh (c.enc a) && sh (c.enc b)) = true then some (PyData.eqv (c.enc a) (c.enc b)) else none) = _
  rw [h.sh20 hn, h.sh20 hn, h.eqd]
  rfl
theorem d_ne [DecidableEq α] (h : CodOk c n) (hn : n ≤ 20) (a b : α) : dCmp .ne (c.enc a) (c.enc b) = some (!decide (a = b)) := by
  show (if (sh (c.enc a) && sh (c.enc b)) = true then some (!PyData.eqv (c.enc a) (c.enc b)) else none) = _
  rw [h.sh20 hn, h.sh20 hn, h.eqd]
  rfl
/-! the order -/
theorem lt_anti (h : CodOk c n) {a b : α} (h1 : dataLt (c.enc a) (c.enc b) = false) (h2 : dataLt (c.enc b) (c.enc a) = false) : a = b := by
  have e := lex_total (O := itemOrd) _ _ h1 h2
  refine (h.eqv a b).mp ?_
  cases q : PyData.eqv (c.enc a) (c.enc b) with
  | true => rfl
  | false =>
    have z := (toks_eqv _ _ (h.al a b)).2 q [] [.inl 0]
    rw [e, List.append_nil] at z
    have z2 : ∀ l : List (Int ⊕ List Nat), PyProof.Rows.lexLt itemOrd l (l ++ [.inl 0]) = true := fun l => by
      induction l with
      | nil => rfl
      | cons x l ih =>
        rw [List.cons_append, lex_self]
        exact ih
    rw [z2, lex_irrefl] at z
    cases z
theorem minD_mem (x : D) : ∀ xs : List D, minD x xs ∈ x :: xs := fun xs => by
  unfold minD
  induction xs generalizing x with
  | nil => simp
  | cons y ys ih =>
    rw [List.foldl_cons]
    by_cases h : dataLt y x = true
    · rw [if_pos h]
      have := ih y
      simp only [List.mem_cons] at this ⊢
      rcases this with h | h
      · exact .inr (.inl h)
      · exact .inr (.inr h)
    · rw [if_neg h]
      have := ih x
      simp only [List.mem_cons] at this ⊢
      rcases this with h | h
      · exact .inl h
      · exact .inr (.inr h)
theorem minD_le (x : D) : ∀ xs : List D, ∀ y ∈ x :: xs, dataLt y (minD x xs) = false := fun xs => by
  unfold minD
  induction xs generalizing x with
  | nil =>
    intro y hy
    have : y = x := by simpa using hy
    subst this
    exact dataLt_self y
  | cons z zs ih =>
    intro y hy
    rw [List.foldl_cons]
    have key : ∀ w, (∀ v, v = x ∨ v = z → dataLt v w = false) → dataLt y (List.foldl (fun a y => if dataLt y a = true then y else a) w zs) = false := fun w hw => by
      have hI := ih w
      rcases List.mem_cons.mp hy with e | hy
      · subst e
        have h1 := hw y (.inl rfl)
        have h2 := hI w (by simp)
        cases q : dataLt y (List.foldl (fun a y => if dataLt y a = true then y else a) w zs) with
        | false => rfl
        | true =>
          rcases lex_negTrans (O := itemOrd) _ (keyToks w) _ q with r | r
          · exact absurd (show dataLt y w = true from r) (by rw [h1]; simp)
          · exact absurd (show dataLt w _ = true from r) (by rw [h2]; simp)
      · rcases List.mem_cons.mp hy with e | hy
        · subst e
          have h1 := hw y (.inr rfl)
          have h2 := hI w (by simp)
          cases q : dataLt y (List.foldl (fun a y => if dataLt y a = true then y else a) w zs) with
          | false => rfl
          | true =>
            rcases lex_negTrans (O := itemOrd) _ (keyToks w) _ q with r | r
            · exact absurd (show dataLt y w = true from r) (by rw [h1]; simp)
            · exact absurd (show dataLt w _ = true from r) (by rw [h2]; simp)
        · exact hI y (by simp [hy])
    by_cases h : dataLt z x = true
    · rw [if_pos h]
      refine key z fun v hv => ?_
      rcases hv with rfl | rfl
      · cases q : dataLt v z with
        | false => rfl
        | true =>
          have := lex_trans (O := itemOrd) _ _ _ q h
          rw [lex_irrefl] at this
          cases this
      · exact dataLt_self v
    · rw [if_neg h]
      refine key x fun v hv => ?_
      rcases hv with rfl | rfl
      · exact dataLt_self v
      · simpa using h
theorem dMin_of (h : CodOk c n) (hn : n ≤ 20) {l : List α} (ne : l ≠ []) : ∃ m ∈ l, dMin (l.map c.enc) = some (c.enc m) ∧ ∀ a ∈ l, dataLt (c.enc a) (c.enc m) = false := by
  cases l with
  | nil => exact absurd rfl ne
  | cons x xs =>
    have hm := minD_mem (c.enc x) (xs.map c.enc)
    rw [← List.map_cons] at hm
    obtain ⟨m, hmem, e⟩ := List.mem_map.mp hm
    refine ⟨m, hmem, ?_, fun a ha => ?_⟩
    · have h1 : shs (c.enc x :: xs.map c.enc) = true := h.shs20 hn (x :: xs)
      have h2 : allAlike (c.enc x :: xs.map c.enc) = true := by
        unfold allAlike
        rw [← List.map_cons, List.all_eq_true]
        intro d hd
        rw [List.all_eq_true]
        intro d' hd'
        obtain ⟨a, _, rfl⟩ := List.mem_map.mp hd
        obtain ⟨b, _, rfl⟩ := List.mem_map.mp hd'
        exact h.al a b
      have h3 : (c.enc x :: xs.map c.enc).all (fun d => !isN d) = true := by
        rw [← List.map_cons, List.all_eq_true]
        intro d hd
        obtain ⟨a, _, rfl⟩ := List.mem_map.mp hd
        rw [h.nn]
        rfl
      rw [List.map_cons]
      show (if (shs (c.enc x :: xs.map c.enc) && (allAlike (c.enc x :: xs.map c.enc) && (c.enc x :: xs.map c.enc).all (fun d => !isN d))) = true then some (minD (c.enc x) (xs.map c.enc)) else none) = _
      rw [h1, h2, h3, e]
      rfl
    · rw [e]
      exact minD_le _ _ _ (by rw [← List.map_cons]; exact List.mem_map_of_mem ha)
/-- the least of lists with the same items -/
theorem dMin_same (h : CodOk c n) (hn : n ≤ 20) {l l' : List α} (ne : l ≠ []) (hs : ∀ a, a ∈ l ↔ a ∈ l') : ∃ m ∈ l, dMin (l.map c.enc) = some (c.enc m) ∧ dMin (l'.map c.enc) = some (c.enc m) := by
  obtain ⟨m, h1, h2, h3⟩ := dMin_of h hn ne
  have ne' : l' ≠ [] := fun e => by
    have := (hs m).mp h1
    rw [e] at this
    simp at this
  obtain ⟨m', k1, k2, k3⟩ := dMin_of h hn ne'
  have e : m = m' := lt_anti h (k3 m ((hs m).mp h1)) (h3 m' ((hs m').mpr k1))
  subst e
  exact ⟨m, h1, h2, k2⟩
/-- what is sorted: the same items -/
theorem dSort_of (h : CodOk c n) (hn : n ≤ 20) {l : List α} (hs : l.length ≤ 1 ∨ sortable (l.map c.enc) = true) : ∃ l' : List α, dSort (l.map c.enc) = some (l'.map c.enc) ∧ l'.Perm l := by
  unfold dSort
  have h1 : shs (l.map c.enc) = true := h.shs20 hn l
  have h3 : (l.map c.enc).all (fun d => !isN d) = true := by
    rw [List.all_eq_true]
    intro d hd
    obtain ⟨a, _, rfl⟩ := List.mem_map.mp hd
    rw [h.nn]
    rfl
  by_cases hl : l.length ≤ 1
  · refine ⟨l, ?_, .refl l⟩
    rw [h1, h3, if_pos (by simpa using hl)]
  · have h2 : allAlike (l.map c.enc) = true := by
      unfold allAlike
      rw [List.all_eq_true]
      intro d hd
      rw [List.all_eq_true]
      intro d' hd'
      obtain ⟨a, _, rfl⟩ := List.mem_map.mp hd
      obtain ⟨b, _, rfl⟩ := List.mem_map.mp hd'
      exact h.al a b
    have hs := hs.resolve_left hl
    rw [if_neg (by simp; omega), h1, h2, hs]
    have pm := List.mergeSort_perm (l.map c.enc) (dataLe false id)
    have lift : ∀ (ds : List D), (∀ d ∈ ds, d ∈ l.map c.enc) → ∃ l' : List α, ds = l'.map c.enc := fun ds => by
      induction ds with
      | nil => exact fun _ => ⟨[], rfl⟩
      | cons d ds ih =>
        intro hd
        obtain ⟨l', e⟩ := ih fun x hx => hd x (by simp [hx])
        obtain ⟨a, _, ea⟩ := List.mem_map.mp (hd d (by simp))
        exact ⟨a :: l', by rw [List.map_cons, ea, e]⟩
    obtain ⟨l', e⟩ := lift _ fun d hd => pm.mem_iff.mp hd
    refine ⟨l', by rw [e]; rfl, ?_⟩
    rw [e] at pm
    have := pm.filterMap c.dec
    have z : ∀ xs : List α, (xs.map c.enc).filterMap c.dec = xs := fun xs => by
      rw [List.filterMap_map]
      have : (c.dec ∘ c.enc) = some := funext fun a => c.he a
      rw [this, List.filterMap_some]
    rwa [z, z] at this
end
end PV

set_option maxHeartbeats 4000000
/-! PV: argument lists of a known make. -/
namespace PV
open PySem
section
variable {α β γ δ : Type}
def A1 (a : Cod α) : List D → Option α
  | [x] => a.dec x
  | _ => none
def A2 (a : Cod α) (b : Cod β) : List D → Option (α × β)
  | [x, y] => (a.dec x).bind fun u => (b.dec y).map fun v => (u, v)
  | _ => none
def A3 (a : Cod α) (b : Cod β) (c : Cod γ) : List D → Option (α × β × γ)
  | [x, y, z] => (a.dec x).bind fun u => (b.dec y).bind fun v => (c.dec z).map fun w => (u, v, w)
  | _ => none
def A4 (a : Cod α) (b : Cod β) (c : Cod γ) (d : Cod δ) : List D → Option (α × β × γ × δ)
  | [x, y, z, t] => (a.dec x).bind fun u => (b.dec y).bind fun v => (c.dec z).bind fun w => (d.dec t).map fun s => (u, v, w, s)
  | _ => none
theorem A1_enc (a : Cod α) (x : α) : A1 a [a.enc x] = some x := by simp [A1, a.he]
theorem A2_enc (a : Cod α) (b : Cod β) (x : α) (y : β) : A2 a b [a.enc x, b.enc y] = some (x, y) := by simp [A2, a.he, b.he]
theorem A3_enc (a : Cod α) (b : Cod β) (c : Cod γ) (x : α) (y : β) (z : γ) : A3 a b c [a.enc x, b.enc y, c.enc z] = some (x, y, z) := by simp [A3, a.he, b.he, c.he]
theorem A4_enc (a : Cod α) (b : Cod β) (c : Cod γ) (d : Cod δ) (x : α) (y : β) (z : γ) (t : δ) : A4 a b c d [a.enc x, b.enc y, c.enc z, d.enc t] = some (x, y, z, t) := by simp [A4, a.he, b.he, c.he, d.he]
theorem A1_some {a : Cod α} {ds : List D} {p : α} (h : A1 a ds = some p) : ds = [a.enc p] := by
  unfold A1 at h
  split at h
  · rw [a.hd _ _ h]
  · cases h
theorem A2_some {a : Cod α} {b : Cod β} {ds : List D} {p : α × β} (h : A2 a b ds = some p) : ds = [a.enc p.1, b.enc p.2] := by
  unfold A2 at h
  split at h
  · rename_i x y
    cases e1 : a.dec x with
    | none => rw [e1] at h; cases h
    | some u =>
      rw [e1] at h
      cases e2 : b.dec y with
      | none => rw [e2] at h; cases h
      | some v =>
        rw [e2] at h
        cases h
        rw [← a.hd _ _ e1, ← b.hd _ _ e2]
  · cases h
theorem A3_some {a : Cod α} {b : Cod β} {c : Cod γ} {ds : List D} {p : α × β × γ} (h : A3 a b c ds = some p) : ds = [a.enc p.1, b.enc p.2.1, c.enc p.2.2] := by
  unfold A3 at h
  split at h
  · rename_i x y z
    cases e1 : a.dec x with
    | none => rw [e1] at h; cases h
    | some u =>
      rw [e1] at h
      cases e2 : b.dec y with
      | none => rw [e2] at h; cases h
      | some v =>
        rw [e2] at h
        cases e3 : c.dec z with
        | none => rw [e3] at h; cases h
        | some w =>
          rw [e3] at h
          cases h
          rw [← a.hd _ _ e1, ← b.hd _ _ e2, ← c.hd _ _ e3]
  · cases h
theorem A4_some {a : Cod α} {b : Cod β} {c : Cod γ} {d : Cod δ} {ds : List D} {p : α × β × γ × δ} (h : A4 a b c d ds = some p) : ds = [a.enc p.1, b.enc p.2.1, c.enc p.2.2.1, d.enc p.2.2.2] := by
  unfold A4 at h
  split at h
  · rename_i x y z t
    cases e1 : a.dec x with
    | none => rw [e1] at h; cases h
    | some u =>
      rw [e1] at h
      cases e2 : b.dec y with
      | none => rw [e2] at h; cases h
      | some v =>
        rw [e2] at h
        cases e3 : c.dec z with
        | none => rw [e3] at h; cases h
        | some w =>
          rw [e3] at h
          cases e4 : d.dec t with
          | none => rw [e4] at h; cases h
          | some s =>
            rw [e4] at h
            cases h
            rw [← a.hd _ _ e1, ← b.hd _ _ e2, ← c.hd _ _ e3, ← d.hd _ _ e4]
  · cases h
/-- a spec: arguments of a known make, a condition, a result -/
def spec {τ : Type} (A : List D → Option τ) (p : τ → Bool) (f : τ → D) (ds : List D) : Option D := (A ds).bind fun t => if p t = true then some (f t) else none
theorem spec_some {τ : Type} {A : List D → Option τ} {p : τ → Bool} {f : τ → D} {ds : List D} {d : D} (h : spec A p f ds = some d) : ∃ t, A ds = some t ∧ p t = true ∧ d = f t := by
  unfold spec at h
  cases e : A ds with
  | none => rw [e] at h; cases h
  | some t =>
    rw [e] at h
    have h : (if p t = true then some (f t) else none) = some d := h
    by_cases hp : p t = true
    · rw [if_pos hp] at h
      exact ⟨t, rfl, hp, (Option.some.inj h).symm⟩
    · rw [if_neg hp] at h
      cases h
theorem spec_of {τ : Type} {A : List D → Option τ} {p : τ → Bool} {f : τ → D} {ds : List D} {t : τ} (h : A ds = some t) (hp : p t = true) : spec A p f ds = some (f t) := by
  unfold spec
  rw [h]
  show (if p t = true then some (f t) else none) = _
  rw [if_pos hp]
end
end PV

set_option maxHeartbeats 4000000
/-! PV: reckoning with draws. -/
namespace PV
open PySem
section
variable {C : Nat → Option D} {F G : Nat → List D → W D} {ρ : Env} {Q : D → Prop} {R : Fl → Prop} {T : List D → Prop}
theorem w_lift {α : Type} (o : Option α) (Q : α → Prop) : wM.lift o Q = ∃ z, o = some z ∧ Q z := by
  cases o with
  | none => exact propext ⟨fun h => False.elim h, fun ⟨z, h, _⟩ => by cases h⟩
  | some a => exact propext ⟨fun h => ⟨a, rfl, h⟩, fun ⟨z, h, q⟩ => by cases h; exact q⟩
theorem w_bind {α β : Type} (x : W α) (f : α → W β) (Q : β → Prop) : wM.bind x f Q = x fun a => f a Q := rfl
theorem w_pure {α : Type} (a : α) (Q : α → Prop) : wM.pure a Q = Q a := rfl
@[simp] theorem W_none : ev wM C F G .none ρ Q = Q .none := by unfold ev; rfl
@[simp] theorem W_bl {b : Bool} : ev wM C F G (.bl b) ρ Q = Q (.bool b) := by unfold ev; rfl
@[simp] theorem W_int {b : Int} : ev wM C F G (.int b) ρ Q = Q (.int b) := by unfold ev; rfl
@[simp] theorem W_var {i : Nat} : ev wM C F G (.var i) ρ Q = ∃ z, getV ρ i = some z ∧ Q z := by unfold ev; exact w_lift _ _
@[simp] theorem W_bin {o : Op2} {a b : E} : ev wM C F G (.bin o a b) ρ Q = ev wM C F G a ρ fun x => ev wM C F G b ρ fun y => ∃ z, dBin o x y = some z ∧ Q z := by
  conv => { lhs; unfold ev }
  simp only [w_bind, w_lift]
@[simp] theorem W_ix {a b : E} : ev wM C F G (.ix a b) ρ Q = ev wM C F G a ρ fun x => ev wM C F G b ρ fun y => ∃ z, dIx x y = some z ∧ Q z := by
  conv => { lhs; unfold ev }
  simp only [w_bind, w_lift]
@[simp] theorem W_cmp {c : Cm} {a b : E} : ev wM C F G (.cmp c a b) ρ Q = ev wM C F G a ρ fun x => ev wM C F G b ρ fun y => ∃ z, (dCmp c x y).map .bool = some z ∧ Q z := by
  conv => { lhs; unfold ev }
  simp only [w_bind, w_lift]
@[simp] theorem W_bi {b : Bi} {a : E} : ev wM C F G (.bi b a) ρ Q = ev wM C F G a ρ fun x => ∃ z, dBi b x = some z ∧ Q z := by
  conv => { lhs; unfold ev }
  simp only [w_bind, w_lift]
@[simp] theorem W_tup {es : Es} : ev wM C F G (.tup es) ρ Q = evs wM C F G es ρ fun ds => Q (.tuple ds) := by
  conv => { lhs; unfold ev }
  simp only [w_bind, w_pure]
@[simp] theorem W_lst {es : Es} : ev wM C F G (.lst es) ρ Q = evs wM C F G es ρ fun ds => Q (.list ds) := by
  conv => { lhs; unfold ev }
  simp only [w_bind, w_pure]
@[simp] theorem W_call {f : Nat} {es : Es} : ev wM C F G (.call f es) ρ Q = evs wM C F G es ρ fun ds => F f ds Q := by
  conv => { lhs; unfold ev }
  simp only [w_bind]
@[simp] theorem W_callw {f : Nat} {es : Es} : ev wM C F G (.callw f es) ρ Q = evs wM C F G es ρ fun ds => G f ds Q := by
  conv => { lhs; unfold ev }
  simp only [w_bind]
@[simp] theorem Ws_nil : evs wM C F G .nil ρ T = T [] := by unfold evs; rfl
@[simp] theorem Ws_cons {e : E} {es : Es} : evs wM C F G (.cons e es) ρ T = ev wM C F G e ρ fun d => evs wM C F G es ρ fun ds => T (d :: ds) := by
  conv => { lhs; unfold evs }
  simp only [w_bind, w_pure]
@[simp] theorem WS_r1 {a : E} : evS wM C F G (.r1 a) ρ T = ev wM C F G a ρ fun x => ∃ i, int? x = some i ∧ okR 0 i = true ∧ T (rng 0 i) := by
  conv => { lhs; unfold evS }
  simp only [w_bind, w_lift]
  refine congrArg (ev wM C F G a ρ) (funext fun x => ?_)
  refine propext (exists_congr fun i => and_congr_right fun _ => ?_)
  by_cases h : okR 0 i = true
  · rw [if_pos h]
    exact ⟨fun q => ⟨h, q⟩, fun q => q.2⟩
  · rw [if_neg h]
    exact ⟨fun q => False.elim q, fun q => absurd q.1 h⟩
@[simp] theorem WS_val {a : E} : evS wM C F G (.val a) ρ T = ev wM C F G a ρ fun x => ∃ i, items x = some i ∧ T i := by
  conv => { lhs; unfold evS }
  simp only [w_bind, w_lift]
@[simp] theorem WX_asg {i : Nat} {e : E} : ex wM C F G (.asg i e) ρ R = ev wM C F G e (frz (esc false e) ρ) fun d => R (.nx ((frz (esc false e) ρ).set i (slotOf e d))) := by
  conv => { lhs; unfold ex }
  simp only [w_bind, w_pure]
@[simp] theorem WX_asgp {is : List Nat} {es : Es} : ex wM C F G (.asgp is es) ρ R = evs wM C F G es (frz (escs es) ρ) fun ds => ∃ ρ', setAll is es ds (frz (escs es) ρ) = some ρ' ∧ R (.nx ρ') := by
  conv => { lhs; unfold ex }
  simp only [w_bind, w_lift, w_pure]
@[simp] theorem WX_aug {i : Nat} {o : Op2} {e : E} : ex wM C F G (.aug i o e) ρ R = ∃ x, getV ρ i = some x ∧ ev wM C F G e (frz (esc false e) ρ) fun y => ∃ a, int? x = some a ∧ ∃ b, int? y = some b ∧ ∃ z, dBin o (.int a) (.int b) = some z ∧ R (.nx ((frz (esc false e) ρ).set i (.sh z))) := by
  conv => { lhs; unfold ex }
  simp only [w_bind, w_lift, w_pure]
@[simp] theorem WX_ret {e : E} : ex wM C F G (.ret e) ρ R = ev wM C F G e (frz (esc false e) ρ) fun d => R (.rt d) := by
  conv => { lhs; unfold ex }
  simp only [w_bind, w_pure]
/-- a turn of a for -/
def fBodyW (C : Nat → Option D) (F G : Nat → List D → W D) (p : Pat) (b : Ss) (d : D) (ρ : Env) : W Fl := wM.bind (wM.lift (bindP p d ρ)) fun ρ => exs wM C F G b ρ
theorem fBodyW_eq {p : Pat} {b : Ss} {d : D} {ρ' : Env} (h : bindP p d ρ = some ρ') : fBodyW C F G p b d ρ R = exs wM C F G b ρ' R := by
  unfold fBodyW
  rw [w_bind, w_lift]
  exact propext ⟨fun ⟨z, h1, q⟩ => by rw [h] at h1; cases h1; exact q, fun q => ⟨_, h, q⟩⟩
@[simp] theorem WX_for {p : Pat} {s : Src} {b : Ss} : ex wM C F G (.for_ p s b) ρ R = evS wM C F G s (frz (escF s) ρ) fun xs => forL wM (fBodyW C F G p b) (frz (escF s) ρ) xs (frz (escF s) ρ) R := by
  conv => { lhs; unfold ex }
  simp only [w_bind]
  rfl
@[simp] theorem WXs_nil : exs wM C F G .nil ρ R = R (.nx ρ) := by unfold exs; rfl
def fl3 (r : Env → Prop) (R : Fl → Prop) : Fl → Prop
  | .nx ρ => r ρ
  | .rt d => R (.rt d)
  | .bk ρ => R (.bk ρ)
@[simp] theorem fl3_nx {r : Env → Prop} : fl3 r R (.nx ρ) = r ρ := rfl
@[simp] theorem fl3_rt {r : Env → Prop} {d : D} : fl3 r R (.rt d) = R (.rt d) := rfl
theorem WXs_cons {s : S} {r : Ss} : exs wM C F G (.cons s r) ρ R = ex wM C F G s ρ (fl3 (fun ρ => exs wM C F G r ρ R) R) := by
  conv => { lhs; unfold exs }
  rw [w_bind]
  refine congrArg (ex wM C F G s ρ) (funext fun f => ?_)
  cases f <;> rfl
theorem forL_W {g : D → Env → W Fl} {ρ0 : Env} (I : Nat → Env → Prop) {xs : List D} (step : ∀ i x ρ, xs[i]? = some x → I i ρ → ∀ R : Fl → Prop, (∀ ρ', I (i + 1) (msk ρ0 ρ') → R (.nx ρ')) → g x ρ R) : ∀ {ρ : Env} {R : Fl → Prop}, I 0 ρ → (∀ ρ', I xs.length ρ' → R (.nx ρ')) → forL wM g ρ0 xs ρ R := by
  induction xs generalizing I with
  | nil => exact fun {ρ R} h q => by unfold forL; exact q ρ h
  | cons x xs ih =>
    intro ρ R h q
    unfold forL
    rw [w_bind]
    refine step 0 x ρ rfl h _ fun ρ' h' => ?_
    exact ih (fun i ρ => I (i + 1) ρ) (fun i y ρ hy hI => step (i + 1) y ρ (by simpa using hy) hI) h' q
theorem compL_W {g : D → W (Option D)} (I : Nat → List D → Prop) {xs : List D} (step : ∀ i x ys, xs[i]? = some x → I i ys → ∀ R : Option D → Prop, (∀ y, I (i + 1) (ys ++ [y]) → R (some y)) → g x R) : ∀ {T : List D → Prop} (ys : List D), I 0 ys → (∀ zs, I xs.length (ys ++ zs) → T zs) → compL wM g xs T := by
  induction xs generalizing I with
  | nil => exact fun {T} ys h q => by unfold compL; exact q [] (by simpa using h)
  | cons x xs ih =>
    intro T ys h q
    unfold compL
    rw [w_bind]
    refine step 0 x ys rfl h _ fun y h' => ?_
    rw [w_bind]
    refine ih (fun i ys => I (i + 1) ys) (fun i z zs hz hI => step (i + 1) z zs (by simpa using hz) hI) (ys ++ [y]) h' fun zs hz => ?_
    exact q (y :: zs) (by simpa using hz)
end
section
variable {C : Nat → Option D} {T : Nat → List D → Option D} {G : Nat → List D → W D} {ρ : Env}
theorem w_ev {e : E} {d : D} {Q : D → Prop} (h : ev optM C T (fun _ _ => none) e ρ = some d) (q : Q d) : ev wM C (fun n ds => ofO (T n ds)) G e ρ Q := gv_ev (fun n ds => gv_ofO _) (fun n ds => gv_none) e ρ d h Q q
theorem w_ex {s : S} {f : Fl} {R : Fl → Prop} (h : ex optM C T (fun _ _ => none) s ρ = some f) (q : R f) : ex wM C (fun n ds => ofO (T n ds)) G s ρ R := gv_ex (fun n ds => gv_ofO _) (fun n ds => gv_none) s ρ f h R q
theorem w_exs {s : Ss} {f : Fl} {R : Fl → Prop} (h : exs optM C T (fun _ _ => none) s ρ = some f) (q : R f) : exs wM C (fun n ds => ofO (T n ds)) G s ρ R := gv_exs (fun n ds => gv_ofO _) (fun n ds => gv_none) s ρ f h R q
/-- one statement reckoned in Option -/
theorem w_cons {s : S} {r : Ss} {ρ' : Env} {R : Fl → Prop} (h : ex optM C T (fun _ _ => none) s ρ = some (.nx ρ')) (q : exs wM C (fun n ds => ofO (T n ds)) G r ρ' R) : exs wM C (fun n ds => ofO (T n ds)) G (.cons s r) ρ R := by
  rw [WXs_cons]
  exact w_ex h q
end
@[simp] theorem gNext_eq {n : Int} {Q : D → Prop} : gNext [.int n] Q = (0 < n ∧ ∀ j : Int, 0 ≤ j → j < n → Q (.int j)) := by
  unfold gNext
  exact propext ⟨fun ⟨m, h, a, b⟩ => by cases h; exact ⟨a, b⟩, fun ⟨a, b⟩ => ⟨n, rfl, a, b⟩⟩
end PV

set_option maxHeartbeats 4000000
/-! PV: reckoning with draws, more. -/
namespace PV
open PySem
section
variable {C : Nat → Option D} {F G : Nat → List D → W D} {ρ : Env} {Q : D → Prop} {R : Fl → Prop} {T : List D → Prop}
def oStepW (C : Nat → Option D) (F G : Nat → List D → W D) (p : Pat) (t elt : E) (ρ : Env) (d : D) : W (Option D) := wM.bind (wM.lift (bindP p d ρ)) fun ρ1 =>
  wM.bind (ev wM C F G t ρ1) fun x => wM.bind (wM.lift (bool? x)) fun b => if b = true then wM.bind (ev wM C F G elt ρ1) fun y => wM.pure (some y) else wM.pure none
theorem oStepW_yes {p : Pat} {elt : E} {ρ' : Env} {d : D} {R : Option D → Prop} (h : bindP p d ρ = some ρ') : oStepW C F G p .yes elt ρ d R = ev wM C F G elt ρ' fun y => R (some y) := by
  unfold oStepW
  rw [w_bind, w_lift]
  have e : ∀ z, bindP p d ρ = some z ↔ z = ρ' := fun z => by rw [h]; exact ⟨fun q => (Option.some.inj q).symm, fun q => by rw [q]⟩
  simp only [e, exists_eq_left]
  rw [w_bind]
  show ev wM C F G (.bl true) ρ' _ = _
  rw [W_bl, w_bind, w_lift]
  exact propext ⟨fun ⟨z, h1, q⟩ => by cases h1; exact q, fun q => ⟨true, rfl, q⟩⟩
@[simp] theorem W_comp {own : List Nat} {p : Pat} {s : Src} {t elt : E} : ev wM C F G (.comp own p s t elt) ρ Q = evS wM C F G s ρ fun xs => compL wM (oStepW C F G p t elt (wip own ρ)) xs fun ys => Q (.list ys) := by
  conv => { lhs; unfold ev }
  simp only [w_bind, w_pure]
  rfl
@[simp] theorem WX_ite {t : E} {a b : Ss} : ex wM C F G (.ite t a b) ρ R = ev wM C F G t (frz (esc true t) ρ) fun x => ∃ t', bool? x = some t' ∧ (if t' = true then exs wM C F G a (frz (esc true t) ρ) R else exs wM C F G b (frz (esc true t) ρ) R) := by
  conv => { lhs; unfold ex }
  simp only [w_bind, w_lift]
  refine congrArg (ev wM C F G t _) (funext fun x => propext (exists_congr fun i => and_congr_right fun _ => ?_))
  by_cases h : i = true
  · simp only [if_pos h]
  · simp only [if_neg h]
end
end PV

set_option maxHeartbeats 4000000
/-! PV: goals with draws, hidden from a look at their heads (Lean would reckon them out). -/
namespace PV
open PySem
@[irreducible] def Wr (P : Prop) : Prop := P
theorem Wr.mk {P : Prop} (h : P) : Wr P := by unfold Wr; exact h
theorem Wr.out {P : Prop} (h : Wr P) : P := by unfold Wr at h; exact h
theorem Wr.ex {α : Type} {P Q : α → Prop} (z : α) (h : P z) (q : Wr (Q z)) : Wr (∃ z, P z ∧ Q z) := Wr.mk ⟨z, h, q.out⟩
theorem Wr.and {P Q : Prop} (h : P) (q : Wr Q) : Wr (P ∧ Q) := Wr.mk ⟨h, q.out⟩
theorem Wr.all {α : Sort _} {P : α → Prop} (h : ∀ x, Wr (P x)) : Wr (∀ x, P x) := Wr.mk fun x => (h x).out
theorem Wr.draw {n : Int} {Q : Int → Prop} (h : ∀ j : Int, 0 ≤ j → j < n → Wr (Q j)) : Wr (∀ j : Int, 0 ≤ j → j < n → Q j) := Wr.mk fun j a b => (h j a b).out
section
variable {C : Nat → Option D} {T : Nat → List D → Option D} {F G : Nat → List D → W D} {ρ : Env}
theorem Wr.next {n : Int} {Q : D → Prop} (hn : 0 < n) (h : ∀ j : Int, 0 ≤ j → j < n → Wr (Q (.int j))) : Wr (gNext [.int n] Q) := Wr.mk (by rw [gNext_eq]; exact ⟨hn, fun j a b => (h j a b).out⟩)
theorem Wr.exs {s : Ss} {f : Fl} {R : Fl → Prop} (h : exs optM C T (fun _ _ => none) s ρ = some f) (q : Wr (R f)) : Wr (exs wM C (fun n ds => ofO (T n ds)) G s ρ R) := Wr.mk (w_exs h q.out)
theorem Wr.cons {s : S} {r : Ss} {ρ' : Env} {R : Fl → Prop} (h : PV.ex optM C T (fun _ _ => none) s ρ = some (.nx ρ')) (q : Wr (PV.exs wM C (fun n ds => ofO (T n ds)) G r ρ' R)) : Wr (PV.exs wM C (fun n ds => ofO (T n ds)) G (.cons s r) ρ R) := Wr.mk (w_cons h q.out)
theorem forL_R {g : D → Env → W Fl} {ρ0 : Env} (I : Nat → Env → Prop) {xs : List D} (step : ∀ i x ρ, xs[i]? = some x → I i ρ → ∀ R : Fl → Prop, (∀ ρ', I (i + 1) (msk ρ0 ρ') → Wr (R (.nx ρ'))) → Wr (g x ρ R)) {ρ : Env} {R : Fl → Prop} (h : I 0 ρ) (q : ∀ ρ', I xs.length ρ' → Wr (R (.nx ρ'))) : Wr (forL wM g ρ0 xs ρ R) :=
  Wr.mk (forL_W I (fun i x ρ hx hI R hR => (step i x ρ hx hI R fun ρ' h => Wr.mk (hR ρ' h)).out) h fun ρ' h => (q ρ' h).out)
theorem compL_R {g : D → W (Option D)} (I : Nat → List D → Prop) {xs : List D} (step : ∀ i x ys, xs[i]? = some x → I i ys → ∀ R : Option D → Prop, (∀ y, I (i + 1) (ys ++ [y]) → Wr (R (some y))) → Wr (g x R)) {T : List D → Prop} (h : I 0 []) (q : ∀ zs, I xs.length zs → Wr (T zs)) : Wr (compL wM g xs T) :=
  Wr.mk (compL_W I (fun i x ys hx hI R hR => (step i x ys hx hI R fun y h => Wr.mk (hR y h)).out) [] h fun zs h => (q zs (by simpa using h)).out)
end
section
variable {C : Nat → Option D} {F G : Nat → List D → W D} {ρ : Env} {Q : D → Prop} {R : Fl → Prop} {T : List D → Prop}
@[simp] theorem WX_app {i : Nat} {e : E} : ex wM C F G (.app i e) ρ R = ∃ x, getO (frz (esc false e) ρ) i = some x ∧ ev wM C F G e (frz (esc false e) ρ) fun d => ∃ y, dApp d x = some y ∧ R (.nx ((frz (esc false e) ρ).set i (.ow y))) := by
  conv => { lhs; unfold ex }
  simp only [w_bind, w_lift, w_pure]
@[simp] theorem WX_asgt {p : Pat} {e : E} : ex wM C F G (.asgt p e) ρ R = ev wM C F G e (frz (esc false e) ρ) fun d => ∃ ρ', bindP p d (frz (esc false e) ρ) = some ρ' ∧ R (.nx ρ') := by
  conv => { lhs; unfold ex }
  simp only [w_bind, w_lift, w_pure]
@[simp] theorem W_str {s : Str} : ev wM C F G (.str s) ρ Q = Q (.str s) := by unfold ev; rfl
@[simp] theorem W_neg {a : E} : ev wM C F G (.neg a) ρ Q = ev wM C F G a ρ fun x => ∃ z, ((int? x).map fun i => PyData.int (-i)) = some z ∧ Q z := by
  conv => { lhs; unfold ev }
  simp only [w_bind, w_lift]
@[simp] theorem W_not {a : E} : ev wM C F G (.not a) ρ Q = ev wM C F G a ρ fun x => ∃ z, ((bool? x).map fun i => PyData.bool (!i)) = some z ∧ Q z := by
  conv => { lhs; unfold ev }
  simp only [w_bind, w_lift]
@[simp] theorem W_mx {a b : E} : ev wM C F G (.mx a b) ρ Q = ev wM C F G a ρ fun x => ev wM C F G b ρ fun y => ∃ z, dMx x y = some z ∧ Q z := by
  conv => { lhs; unfold ev }
  simp only [w_bind, w_lift]
@[simp] theorem W_mn {a b : E} : ev wM C F G (.mn a b) ρ Q = ev wM C F G a ρ fun x => ev wM C F G b ρ fun y => ∃ z, dMn x y = some z ∧ Q z := by
  conv => { lhs; unfold ev }
  simp only [w_bind, w_lift]
@[simp] theorem W_ife {t a b : E} : ev wM C F G (.ife t a b) ρ Q = ev wM C F G t ρ fun x => ∃ z, bool? x = some z ∧ (if z = true then ev wM C F G a ρ Q else ev wM C F G b ρ Q) := by
  conv => { lhs; unfold ev }
  simp only [w_bind, w_lift]
  refine congrArg (ev wM C F G t _) (funext fun x => propext (exists_congr fun i => and_congr_right fun _ => ?_))
  by_cases h : i = true
  · simp only [if_pos h]
  · simp only [if_neg h]
end
/-- a row picked -/
def gPick : List D → W D := fun ds R => ∃ xs : List D, ds = [.list xs] ∧ 0 < xs.length ∧ ∀ x ∈ xs, R x
theorem Wr.pick {xs : List D} {Q : D → Prop} (h0 : xs ≠ []) (h : ∀ x ∈ xs, Wr (Q x)) : Wr (gPick [.list xs] Q) := Wr.mk ⟨xs, rfl, List.length_pos_iff.mpr h0, fun x hx => (h x hx).out⟩
theorem Wr.app {i : Nat} {e : E} {C : Nat → Option D} {F G : Nat → List D → W D} {ρ : Env} {R : Fl → Prop} {x : D} (h : getO (frz (esc false e) ρ) i = some x) (q : Wr (ev wM C F G e (frz (esc false e) ρ) fun d => ∃ y, dApp d x = some y ∧ R (.nx ((frz (esc false e) ρ).set i (.ow y))))) : Wr (PV.ex wM C F G (.app i e) ρ R) := by
  rw [WX_app]
  exact Wr.ex x h q
end PV

set_option maxHeartbeats 4000000
/-! PV: fractions in least terms; loops that end early. -/
namespace PV
open PySem

theorem gcd_fmod (a b : Int) : Int.gcd b (a.fmod b) = Int.gcd a b := by
  have e : a.fmod b = a - b * a.fdiv b := Int.fmod_def a b
  have h1 : (Int.gcd b (a.fmod b) : Int) ∣ b := Int.gcd_dvd_left ..
  have h2 : (Int.gcd b (a.fmod b) : Int) ∣ a.fmod b := Int.gcd_dvd_right ..
  have h3 : (Int.gcd a b : Int) ∣ a := Int.gcd_dvd_left ..
  have h4 : (Int.gcd a b : Int) ∣ b := Int.gcd_dvd_right ..
  have h5 : (Int.gcd b (a.fmod b) : Int) ∣ a := by
    have e2 : a = a.fmod b + b * a.fdiv b := by rw [e]; omega
    have := Int.dvd_add h2 (Int.dvd_mul_of_dvd_left (c := a.fdiv b) h1)
    rwa [← e2] at this
  have h6 : (Int.gcd a b : Int) ∣ a.fmod b := by
    rw [e]
    exact Int.dvd_sub h3 (Int.dvd_mul_of_dvd_left h4)
  exact Nat.dvd_antisymm (Int.ofNat_dvd.mp (Int.dvd_coe_gcd h5 h1)) (Int.ofNat_dvd.mp (Int.dvd_coe_gcd h4 h6))
/-- a fraction in least terms (b from 1 on) -/
def fr (a b : Int) : Int × Int := (a.fdiv (Int.gcd a b), b.fdiv (Int.gcd a b))
theorem gcd_pos {a b : Int} (h : 0 < b) : 0 < (Int.gcd a b : Int) := by
  have : Int.gcd a b ≠ 0 := fun e => by
    have := (Int.gcd_eq_zero_iff.mp e).2
    omega
  omega
theorem gcd_le {a b : Int} (h : 0 < b) : (Int.gcd a b : Int) ≤ b := Int.le_of_dvd h (Int.gcd_dvd_right ..)
/-- stands for a over b -/
structure FR (p : Int × Int) (a b : Int) : Prop where
  pos : 0 < p.2
  pos2 : 0 < b
  eq : p.1 * b = a * p.2
theorem fdiv_dvd {a g : Int} (hg : 0 < g) (h : g ∣ a) : a.fdiv g * g = a := by
  obtain ⟨c, rfl⟩ := h
  rw [Int.mul_comm g c, Int.mul_fdiv_cancel _ (by omega)]
theorem fr_rep {a b : Int} (h : 0 < b) : FR (fr a b) a b := by
  have hg := gcd_pos (a := a) h
  have e1 := fdiv_dvd hg (Int.gcd_dvd_left .. : (Int.gcd a b : Int) ∣ a)
  have e2 := fdiv_dvd hg (Int.gcd_dvd_right .. : (Int.gcd a b : Int) ∣ b)
  unfold fr
  generalize (Int.gcd a b : Int) = g at hg e1 e2 ⊢
  generalize a.fdiv g = x at e1 ⊢
  generalize b.fdiv g = y at e2 ⊢
  refine ⟨?_, h, ?_⟩
  · rcases Int.lt_trichotomy 0 y with h1 | h1 | h1
    · exact h1
    · simp only at *; subst h1; omega
    · have := Int.mul_neg_of_neg_of_pos h1 hg
      omega
  · simp only
    rw [← e1, ← e2, Int.mul_comm y g, ← Int.mul_assoc]
theorem fr_le {a b : Int} (h : 0 < b) : (fr a b).2 ≤ b ∧ (fr a b).1.natAbs ≤ a.natAbs := by
  have hg := gcd_pos (a := a) h
  have e1 := fdiv_dvd hg (Int.gcd_dvd_left .. : (Int.gcd a b : Int) ∣ a)
  have e2 := fdiv_dvd hg (Int.gcd_dvd_right .. : (Int.gcd a b : Int) ∣ b)
  have hp := (fr_rep (a := a) h).pos
  unfold fr at hp ⊢
  generalize (Int.gcd a b : Int) = g at hg e1 e2 hp ⊢
  generalize a.fdiv g = x at e1 hp ⊢
  generalize b.fdiv g = y at e2 hp ⊢
  simp only at hp ⊢
  constructor
  · have : y * 1 ≤ y * g := Int.mul_le_mul_of_nonneg_left (by omega) (by omega)
    omega
  · rw [← e1, Int.natAbs_mul]
    exact Nat.le_mul_of_pos_right _ (by omega)
theorem FR.lt {p q : Int × Int} {a b c d : Int} (h : FR p a b) (h' : FR q c d) : p.1 * q.2 < q.1 * p.2 ↔ a * d < c * b := by
  obtain ⟨p1, p2⟩ := p
  obtain ⟨q1, q2⟩ := q
  obtain ⟨h1, h2, h3⟩ := h
  obtain ⟨k1, k2, k3⟩ := h'
  simp only at *
  have bd : 0 < b * d := Int.mul_pos h2 k2
  have pq : 0 < p2 * q2 := Int.mul_pos h1 k1
  have e1 : (p1 * q2) * (b * d) = (a * d) * (p2 * q2) := by
    rw [show (p1 * q2) * (b * d) = (p1 * b) * (q2 * d) by ac_rfl, h3]; ac_rfl
  have e2 : (q1 * p2) * (b * d) = (c * b) * (p2 * q2) := by
    rw [show (q1 * p2) * (b * d) = (q1 * d) * (p2 * b) by ac_rfl, k3]; ac_rfl
  constructor
  · intro h
    have := Int.mul_lt_mul_of_pos_right h bd
    rw [e1, e2] at this
    exact Int.lt_of_mul_lt_mul_right this (Int.le_of_lt pq)
  · intro h
    have := Int.mul_lt_mul_of_pos_right h pq
    rw [← e1, ← e2] at this
    exact Int.lt_of_mul_lt_mul_right this (Int.le_of_lt bd)
theorem FR.one (a : Int) : FR (a, 1) a 1 := ⟨Int.one_pos, Int.one_pos, rfl⟩
theorem FR.add {p q : Int × Int} {a b c d : Int} (h : FR p a b) (h' : FR q c d) : FR (fr (p.1 * q.2 + q.1 * p.2) (p.2 * q.2)) (a * d + c * b) (b * d) := by
  have r := fr_rep (a := p.1 * q.2 + q.1 * p.2) (Int.mul_pos h.pos h'.pos)
  generalize fr (p.1 * q.2 + q.1 * p.2) (p.2 * q.2) = z at r ⊢
  obtain ⟨p1, p2⟩ := p
  obtain ⟨q1, q2⟩ := q
  obtain ⟨z1, z2⟩ := z
  obtain ⟨h1, h2, h3⟩ := h
  obtain ⟨k1, k2, k3⟩ := h'
  obtain ⟨r1, r2, r3⟩ := r
  simp only at *
  refine ⟨r1, Int.mul_pos h2 k2, ?_⟩
  simp only
  have pq : p2 * q2 ≠ 0 := Int.ne_of_gt (Int.mul_pos h1 k1)
  refine Int.eq_of_mul_eq_mul_right pq ?_
  rw [show z1 * (b * d) * (p2 * q2) = z1 * (p2 * q2) * (b * d) by ac_rfl, r3]
  rw [show (p1 * q2 + q1 * p2) * z2 * (b * d) = ((p1 * b) * (q2 * d) + (q1 * d) * (p2 * b)) * z2 by rw [Int.add_mul, Int.add_mul, Int.add_mul]; congr 1 <;> ac_rfl]
  rw [h3, k3, Int.add_mul, Int.add_mul, Int.add_mul]
  congr 1 <;> ac_rfl
theorem FR.sub {p q : Int × Int} {a b c d : Int} (h : FR p a b) (h' : FR q c d) : FR (fr (p.1 * q.2 - q.1 * p.2) (p.2 * q.2)) (a * d - c * b) (b * d) := by
  have h2 : FR (-q.1, q.2) (-c) d := ⟨h'.pos, h'.pos2, by simp only; rw [Int.neg_mul, Int.neg_mul, h'.eq]⟩
  have := h.add h2
  simp only [Int.neg_mul, ← Int.sub_eq_add_neg] at this
  exact this
/-- a for that ends at the first of a kind -/
theorem forL_find {α : Type} {g : D → Env → Option Fl} {ρ0 : Env} (e : α → D) (p : α → Bool) (r : α → D) : ∀ xs : List α, (∀ x ∈ xs, (p x = true → g (e x) ρ0 = some (.rt (r x))) ∧ (p x = false → ∃ ρ', g (e x) ρ0 = some (.nx ρ') ∧ msk ρ0 ρ' = ρ0)) →
    forL optM g ρ0 (xs.map e) ρ0 = some (match xs.find? p with
      | some x => .rt (r x)
      | none => .nx ρ0)
  | [], _ => by unfold forL; rfl
  | x :: xs, h => by
    rw [List.map_cons]
    unfold forL
    rw [o_bind]
    cases hp : p x with
    | true =>
      rw [(h x (by simp)).1 hp, List.find?_cons_of_pos hp]
      rfl
    | false =>
      obtain ⟨ρ', h1, h2⟩ := (h x (by simp)).2 hp
      rw [h1, List.find?_cons_of_neg (by simp [hp])]
      show forL optM g ρ0 (xs.map e) (msk ρ0 ρ') = _
      rw [h2]
      exact forL_find e p r xs fun y hy => h y (by simp [hy])
@[simp] theorem c_neb {a b : Bool} : dCmp .ne (.bool a) (.bool b) = some (!decide (a = b)) := by cases a <;> cases b <;> rfl
@[simp] theorem c_eqb {a b : Bool} : dCmp .eq (.bool a) (.bool b) = some (decide (a = b)) := by cases a <;> cases b <;> rfl
theorem cut_last {α : Type} (xs : List α) (x : α) : cut (xs ++ [x]) none (some (-1)) = xs := by
  have e : HT.sIx (xs ++ [x]).length (xs ++ [x]).length (some (-1)) = xs.length := by
    simp [HT.sIx]
    omega
  unfold cut
  rw [e, HT.sIx_none]
  simp
theorem nil_or_app {α : Type} (s : List α) : s = [] ∨ ∃ ys x, s = ys ++ [x] := by
  rcases List.eq_nil_or_concat s with h | ⟨ys, x, h⟩
  · exact .inl h
  · exact .inr ⟨ys, x, by rw [h, List.concat_eq_append]⟩
theorem i_sumf {α : Type} {xs : List α} {f : α → Int} : dBi .sum (.list (xs.map fun x => .int (f x))) = some (.int (xs.map f).sum) := by
  have e : xs.map (fun x => PyData.int (f x)) = (xs.map f).map .int := by rw [List.map_map]; rfl
  rw [e, i_sum]
@[simp] theorem sm_2 : small64 2 = true := by decide
@[simp] theorem sm_1 : small64 1 = true := by decide
@[simp] theorem sm_3 : small64 3 = true := by decide
theorem sm_abs {a : Int} (h : a.natAbs ≤ 1000000) : small64 a = true := by
  unfold small64
  exact decide_eq_true (by omega)
theorem fold_fil {α β : Type} (p : α → Bool) (g : α → β) : ∀ (xs : List α) (s : List β), xs.foldl (fun s k => if p k = true then s ++ [g k] else s) s = s ++ (xs.filter p).map g
  | [], s => by simp
  | x :: xs, s => by
    rw [List.foldl_cons, fold_fil p g xs]
    by_cases h : p x = true
    · rw [if_pos h, List.filter_cons_of_pos h, List.map_cons, List.append_assoc]
      rfl
    · rw [if_neg h, List.filter_cons_of_neg h]
/-! the size of plain data -/
mutual
def psz : D → Nat
  | .list xs => pszs xs + 1
  | .tuple xs => pszs xs + 1
  | _ => 1
def pszs : List D → Nat
  | [] => 0
  | x :: xs => psz x + pszs xs
end
theorem pszs_app : ∀ xs ys : List D, pszs (xs ++ ys) = pszs xs + pszs ys
  | [], ys => by simp [pszs]
  | x :: xs, ys => by simp [pszs, pszs_app xs ys, Nat.add_assoc]
theorem psz_pos (x : D) : 1 ≤ psz x := by cases x <;> simp [psz]
theorem pszs_len : ∀ xs : List D, xs.length ≤ pszs xs
  | [] => by simp
  | x :: xs => by
    have := pszs_len xs
    have := psz_pos x
    simp [pszs]
    omega
def kidsOf : D → List D
  | .list xs => xs
  | .tuple xs => xs
  | _ => []
theorem range_get {α β : Type} (xs : List α) (f : Nat → β) (g : α → β) (h : ∀ i (hi : i < xs.length), f i = g xs[i]) : (List.range xs.length).map f = xs.map g := by
  refine List.ext_getElem (by simp) fun i h1 h2 => ?_
  simp only [List.getElem_map, List.getElem_range]
  exact h i (by simpa using h1)
end PV

set_option maxHeartbeats 4000000
/-! PV: what the defs of fractions answer; one value held beside another. -/
namespace PV
open PySem
def cF : Cod (Int × Int) := c2 cInt cInt
theorem ok_F : CodOk cF 1 := ok_2 ok_int ok_int (by decide) (by decide)
theorem e_F (p : Int × Int) : cF.enc p = .tuple [.int p.1, .int p.2] := rfl
def S_common := spec (A2 cInt cInt) (fun p => decide (0 ≤ p.2)) fun p => .int (Int.gcd p.1 p.2)
def S_fraction := spec (A2 cInt cInt) (fun p => decide (0 < p.2 ∧ p.2 < 1073741824)) fun p => cF.enc (fr p.1 p.2)
def S_is_less := spec (A2 cF cF) (fun p => small64 p.1.2 && small64 p.2.2) fun p => .bool (decide (p.1.1 * p.2.2 < p.2.1 * p.1.2))
def okM (p q : Int × Int) : Bool := decide (0 < p.2 ∧ 0 < q.2 ∧ p.2 * q.2 < 1073741824)
def S_plus := spec (A2 cF cF) (fun p => okM p.1 p.2) fun p => cF.enc (fr (p.1.1 * p.2.2 + p.2.1 * p.1.2) (p.1.2 * p.2.2))
def S_minus := spec (A2 cF cF) (fun p => okM p.1 p.2) fun p => cF.enc (fr (p.1.1 * p.2.2 - p.2.1 * p.1.2) (p.1.2 * p.2.2))
def S_times := spec (A2 cF cF) (fun p => okM p.1 p.2 && small64 p.1.1) fun p => cF.enc (fr (p.1.1 * p.2.1) (p.1.2 * p.2.2))
def S_parted := spec (A2 cF cF) (fun p => decide (0 < p.1.2 ∧ 0 < p.2.1 ∧ p.1.2 * p.2.1 < 1073741824) && small64 p.2.2) fun p => cF.enc (fr (p.1.1 * p.2.2) (p.1.2 * p.2.1))
theorem le_mul {a b : Int} (ha : 0 < a) (hb : 0 < b) : a ≤ a * b := by
  have : a * 1 ≤ a * b := Int.mul_le_mul_of_nonneg_left (by omega) (by omega)
  omega
theorem sm_of {a : Int} (h : 0 < a ∧ a < 1073741824) : small64 a = true := by
  unfold small64
  exact decide_eq_true (by omega)
theorem okM_sm {p q : Int × Int} (h : okM p q = true) : small64 p.2 = true ∧ small64 q.2 = true := by
  unfold okM at h
  simp only [decide_eq_true_eq] at h
  have h1 := le_mul h.1 h.2.1
  have h2 := le_mul h.2.1 h.1
  rw [Int.mul_comm] at h2
  exact ⟨sm_of ⟨h.1, by omega⟩, sm_of ⟨h.2.1, by omega⟩⟩
/-- plain data held beside themselves -/
def okSame (d : D) : Bool := shal 10 d && decide (psz d ≤ 1000000)
open Classical in
noncomputable def S_same : List D → Option D
  | [a, b] => if a = b ∧ okSame a = true then some (.bool true) else none
  | _ => none
theorem S_same_of {a : D} (h : okSame a = true) : S_same [a, a] = some (.bool true) := by
  unfold S_same
  exact if_pos ⟨rfl, h⟩
theorem S_same_some {ds : List D} {d : D} (h : S_same ds = some d) : ∃ a, ds = [a, a] ∧ okSame a = true ∧ d = .bool true := by
  unfold S_same at h
  split at h
  · rename_i a b
    split at h
    · rename_i c
      exact ⟨a, by rw [c.1], c.2, (Option.some.inj h).symm⟩
    · cases h
  · cases h
def twin (x : D) : D := .tuple [x, x]
def sameN (s : List D) : List D := match s.getLast? with
  | some x => s.dropLast ++ kidsOf x
  | none => s
theorem sameN_app (ys : List D) (x : D) : sameN (ys ++ [x]) = ys ++ kidsOf x := by
  unfold sameN
  simp
theorem kids_sz (x : D) : pszs (kidsOf x) < psz x := by cases x <;> simp [kidsOf, psz, pszs]
theorem kids_sh {x : D} (h : shal 10 x = true) : (kidsOf x).all (shal 10) = true := by
  cases x with
  | list xs => exact shals_mono xs (n := 9) (by decide) h
  | tuple xs => exact shals_mono xs (n := 9) (by decide) h
  | _ => rfl
theorem sh12 {x : D} (h : shal 10 x = true) : shal 11 (twin x) = true := by
  show [x, x].all (shal 10) = true
  simp [h]
theorem sh_pairs {s : List D} (h : s.all (shal 10) = true) : sh (.list (s.map twin)) = true := by
  refine shal_mono _ (n := 12) (by decide) ?_
  show (s.map twin).all (shal 11) = true
  rw [List.all_eq_true] at h ⊢
  intro d hd
  obtain ⟨x, hx, rfl⟩ := List.mem_map.mp hd
  exact sh12 (h x hx)
theorem ne_nil {s : List D} (h : s.all (shal 10) = true) : dCmp .ne (.list (s.map twin)) (.list []) = some (!s.isEmpty) := by
  show (if (sh (.list (s.map twin)) && sh (.list [])) = true then some (!PyData.eqv (.list (s.map twin)) (.list [])) else none) = _
  rw [sh_pairs h]
  cases s <;> rfl
theorem ne_self {d : D} (h : shal 10 d = true) (hs : dCmp .eq d d = some true) : dCmp .ne d d = some false := by
  unfold dCmp at hs ⊢
  simp only at hs ⊢
  split at hs
  · rename_i c
    rw [if_pos c]
    have := Option.some.inj hs
    rw [this]
    rfl
  · cases hs
end PV

set_option maxHeartbeats 4000000
/-! PV: two-clause comprehensions, membership, loops with a break, what is sorted. -/
namespace PV
open PySem PySem.W PyProof.Rows
section
variable {C : Nat → Option D} {F G : Nat → List D → Option D} {ρ : Env}
noncomputable def oSrc (C : Nat → Option D) (F G : Nat → List D → Option D) (p : Pat) (t : E) (own1 : List Nat) (s1 : Src) (ρb : Env) (d : D) : Option (Option (Env × List D)) := (bindP p d ρb).bind fun ρ1 => (ev optM C F G t ρ1).bind fun x => (bool? x).bind fun b => if b = true then (evS optM C F G s1 ρ1).bind fun zs => some (some (wip own1 ρ1, zs)) else some none
@[simp] theorem o_comp2 {own own1 : List Nat} {p p1 : Pat} {s s1 : Src} {t t1 elt : E} : ev optM C F G (.comp2 own own1 p s t p1 s1 t1 elt) ρ = (evS optM C F G s ρ).bind fun xs => (compLL optM (oSrc C F G p t own1 s1 (wip own ρ)) (oStep C F G p1 t1 elt) [] xs).bind fun ys => some (.list ys) := by
  conv => { lhs; unfold ev }
  simp
  rfl
end
theorem compL_len {g : D → Option (Option D)} : ∀ {xs ys : List D}, compL optM g xs = some ys → ys.length ≤ xs.length
  | [], ys, h => by
    unfold compL at h
    cases h
    exact Nat.le_refl _
  | x :: xs, ys, h => by
    unfold compL at h
    rw [o_bind] at h
    cases hx : g x with
    | none => rw [hx] at h; cases h
    | some o =>
      rw [hx] at h
      cases hr : compL optM g xs with
      | none => rw [Option.bind_some, hr] at h; cases h
      | some zs =>
        have := compL_len hr
        rw [Option.bind_some, hr] at h
        cases o with
        | none => cases h; simp; omega
        | some y => cases h; simp; omega
theorem compLL_all {α β : Type} {src : D → Option (Option (Env × List D))} {g : Env → D → Option (Option D)} {e : α → D} {e' : β → D} {ρ : α → Env} {bs : α → List β} {ys : α → List D} : ∀ (xs : List α) (acc : List D),
    (∀ a ∈ xs, src (e a) = some (some (ρ a, (bs a).map e'))) → (∀ a ∈ xs, compL optM (g (ρ a)) ((bs a).map e') = some (ys a)) → acc.length + (xs.map fun a => (bs a).length).sum ≤ LINE →
    compLL optM src g acc (xs.map e) = some (acc ++ xs.flatMap ys)
  | [], acc, _, _, _ => by
    unfold compLL
    simp
  | a :: xs, acc, h1, h2, hl => by
    rw [List.map_cons, List.sum_cons] at hl
    have hc := h2 a (by simp)
    have hlen := compL_len hc
    rw [List.length_map] at hlen
    have ih := compLL_all xs (acc ++ ys a) (fun b hb => h1 b (by simp [hb])) (fun b hb => h2 b (by simp [hb])) (by rw [List.length_append]; omega)
    rw [List.map_cons]
    unfold compLL
    rw [o_bind, h1 a (by simp)]
    show (if acc.length + ((bs a).map e').length ≤ LINE then optM.bind (compL optM (g (ρ a)) ((bs a).map e')) fun ys => compLL optM src g (acc ++ ys) (xs.map e) else optM.fail) = _
    rw [if_pos (by rw [List.length_map]; omega), hc]
    show compLL optM src g (acc ++ ys a) (xs.map e) = _
    rw [ih, List.flatMap_cons, List.append_assoc]
section
variable {α : Type} [DecidableEq α] {c : Cod α} {n : Nat}
theorem any_in (h : CodOk c n) (x : α) (xs : List α) : (xs.map c.enc).any (fun y => PyData.eqv y (c.enc x)) = decide (x ∈ xs) := by
  induction xs with
  | nil => simp
  | cons y ys ih =>
    rw [List.map_cons, List.any_cons, ih, h.eqd]
    by_cases e : y = x
    · simp [e]
    · have e2 : ¬ x = y := fun q => e q.symm
      simp [e, e2]
theorem d_in_t (h : CodOk c n) (hn : n ≤ 20) (x : α) (xs : List α) : dCmp .in_ (c.enc x) (.tuple (xs.map c.enc)) = some (decide (x ∈ xs)) := by
  show (if (sh (c.enc x) && shs (xs.map c.enc)) = true then some ((xs.map c.enc).any fun y => PyData.eqv y (c.enc x)) else none) = _
  rw [h.sh20 hn, h.shs20 hn, any_in h]
  rfl
theorem d_in_l (h : CodOk c n) (hn : n ≤ 20) (x : α) (xs : List α) : dCmp .in_ (c.enc x) (.list (xs.map c.enc)) = some (decide (x ∈ xs)) := d_in_t h hn x xs
theorem d_ni_t (h : CodOk c n) (hn : n ≤ 20) (x : α) (xs : List α) : dCmp .notin (c.enc x) (.tuple (xs.map c.enc)) = some (!decide (x ∈ xs)) := by
  show (dIn (c.enc x) (.tuple (xs.map c.enc))).map (!·) = _
  rw [show dIn (c.enc x) (.tuple (xs.map c.enc)) = some (decide (x ∈ xs)) from d_in_t h hn x xs]
  rfl
theorem d_ni_l (h : CodOk c n) (hn : n ≤ 20) (x : α) (xs : List α) : dCmp .notin (c.enc x) (.list (xs.map c.enc)) = some (!decide (x ∈ xs)) := d_ni_t h hn x xs
end
/-- a for that a break ends -/
theorem forL_brk {τ : Type} {g : D → Env → Option Fl} {ρ0 : Env} (st : τ → Env) (nxt : τ → τ) (c : τ → Bool) (I : τ → Prop) (h : ∀ s d, I s → (c s = true → (∃ ρ', g d (st s) = some (.nx ρ') ∧ msk ρ0 ρ' = st (nxt s)) ∧ I (nxt s)) ∧ (c s = false → ∃ ρ', g d (st s) = some (.bk ρ') ∧ msk ρ0 ρ' = st s)) :
    ∀ (xs : List D) (s : τ), I s → forL optM g ρ0 xs (st s) = some (.nx (st (loopN nxt c xs.length s)))
  | [], s, _ => by unfold forL; rfl
  | x :: xs, s, hI => by
    unfold forL
    rw [o_bind, List.length_cons]
    unfold loopN
    cases hc : c s with
    | true =>
      obtain ⟨⟨ρ', h1, h2⟩, h3⟩ := (h s x hI).1 hc
      rw [h1, if_pos rfl]
      show forL optM g ρ0 xs (msk ρ0 ρ') = _
      rw [h2]
      exact forL_brk st nxt c I h xs (nxt s) h3
    | false =>
      obtain ⟨ρ', h1, h2⟩ := (h s x hI).2 hc
      rw [h1, if_neg (by simp)]
      show some (Fl.nx (msk ρ0 ρ')) = _
      rw [h2]
theorem bools_map : ∀ bs : List Bool, bools? (bs.map .bool) = some bs
  | [] => rfl
  | b :: bs => by simp [bools?, bools_map bs]
theorem i_allf {α : Type} {xs : List α} {f : α → Bool} : dBi .all (.list (xs.map fun x => .bool (f x))) = some (.bool (xs.all f)) := by
  have e : xs.map (fun x => PyData.bool (f x)) = (xs.map f).map .bool := by rw [List.map_map]; rfl
  rw [e]
  show (bools? ((xs.map f).map .bool)).map _ = _
  rw [bools_map]
  simp
theorem i_anyf {α : Type} {xs : List α} {f : α → Bool} : dBi .any (.list (xs.map fun x => .bool (f x))) = some (.bool (xs.any f)) := by
  have e : xs.map (fun x => PyData.bool (f x)) = (xs.map f).map .bool := by rw [List.map_map]; rfl
  rw [e]
  show (bools? ((xs.map f).map .bool)).map _ = _
  rw [bools_map]
  simp
@[simp] theorem c_isn {d : D} : dCmp .is_ d .none = some (isN d) := by cases d <;> rfl
@[simp] theorem isN_none : isN .none = true := rfl
@[simp] theorem isN_int {i : Int} : isN (.int i) = false := rfl
def cOpt : Cod (Option Nat) where
  enc
    | none => .none
    | some n => .int n
  dec
    | .none => some none
    | .int i => if 0 ≤ i then some (some i.toNat) else none
    | _ => none
  he o := by cases o <;> simp
  hd d o h := by
    cases d <;> simp at h
    · subst h; rfl
    · obtain ⟨h1, h2⟩ := h
      subst h2
      simp [Int.toNat_of_nonneg h1]
/-! what is sorted -/
theorem lt_irr (d : D) : dataLt d d = false := dataLt_self d
section
variable {α : Type} {c : Cod α} {n : Nat}
theorem dSort_is (h : CodOk c n) (hn : n ≤ 20) {l l' : List α} (hs : l.length ≤ 1 ∨ sortable (l.map c.enc) = true) (hp : l'.Perm l) (ho : l'.Pairwise fun a b => dataLt (c.enc b) (c.enc a) = false) : dSort (l.map c.enc) = some (l'.map c.enc) := by
  have T := sortLe_total (listOrd itemOrd) false fun b : D => keyToks (id b)
  obtain ⟨z, e, pz⟩ := dSort_of h hn hs
  have hz : z.Pairwise fun a b => dataLt (c.enc b) (c.enc a) = false := by
    by_cases hl : l.length ≤ 1
    · have : z.length ≤ 1 := by rw [pz.length_eq]; exact hl
      match z, this with
      | [], _ => exact List.Pairwise.nil
      | [a], _ => exact List.pairwise_singleton _ _
    · have h2 : dSort (l.map c.enc) = some ((l.map c.enc).mergeSort (dataLe false id)) := by
        unfold dSort at e ⊢
        rw [if_neg (by simp; omega)] at e ⊢
        split at e
        · rename_i q
          rw [if_pos q]
        · cases e
      rw [h2] at e
      have e := Option.some.inj e
      have pw := List.pairwise_mergeSort (le := dataLe false (id : D → D)) T.trans (fun a b => by rw [Bool.or_eq_true]; exact T.total a b) (l.map c.enc)
      rw [e, List.pairwise_map] at pw
      refine pw.imp fun {a b} q => ?_
      rw [dataLe_eq] at q
      simpa using q
  have : z = l' := List.Perm.eq_of_pairwise (le := fun a b => dataLt (c.enc b) (c.enc a) = false) (fun a b _ _ h1 h2 => lt_anti h h2 h1) hz ho (pz.trans hp.symm)
  rw [e, this]
/-- the least of what is sorted stands first -/
theorem dSort_min (h : CodOk c n) (hn : n ≤ 20) {l : List α} (ne : l ≠ []) (hs : l.length ≤ 1 ∨ sortable (l.map c.enc) = true) : ∃ m r, dSort (l.map c.enc) = some (c.enc m :: r) ∧ dMin (l.map c.enc) = some (c.enc m) ∧ m ∈ l := by
  have T := sortLe_total (listOrd itemOrd) false fun b : D => keyToks (id b)
  obtain ⟨m, h1, h2, h3⟩ := dMin_of h hn ne
  obtain ⟨z, e, pz⟩ := dSort_of h hn hs
  cases z with
  | nil =>
    have := pz.length_eq
    cases l with
    | nil => exact absurd rfl ne
    | cons => simp at this
  | cons a r =>
    have ha : a ∈ l := pz.mem_iff.mp (by simp)
    have hm : m ∈ a :: r := pz.mem_iff.mpr h1
    have le : dataLt (c.enc m) (c.enc a) = false := by
      by_cases hl : l.length ≤ 1
      · have : (a :: r).length ≤ 1 := by rw [pz.length_eq]; exact hl
        have hr : r = [] := by cases r <;> simp at this ⊢
        rw [hr] at hm
        have : m = a := by simpa using hm
        rw [this]
        exact lt_irr _
      · have hd : dSort (l.map c.enc) = some ((l.map c.enc).mergeSort (dataLe false id)) := by
          unfold dSort at e ⊢
          rw [if_neg (by simp; omega)] at e ⊢
          split at e
          · rename_i q
            rw [if_pos q]
          · cases e
        rw [hd] at e
        have e := Option.some.inj e
        have pw := List.pairwise_mergeSort (le := dataLe false (id : D → D)) T.trans (fun a b => by rw [Bool.or_eq_true]; exact T.total a b) (l.map c.enc)
        rw [e, List.map_cons, List.pairwise_cons] at pw
        rcases List.mem_cons.mp hm with q | q
        · rw [q]
          exact lt_irr _
        · have := pw.1 (c.enc m) (List.mem_map_of_mem q)
          rw [dataLe_eq] at this
          simpa using this
    have : a = m := lt_anti h (h3 a ha) le
    subst this
    exact ⟨a, r.map c.enc, by rw [e, List.map_cons], h2, h1⟩
end
end PV

set_option maxHeartbeats 4000000
/-! PV: constants of the module; loops by index; what is often asked of codecs. -/
namespace PV
open PySem PyProof.Rows L2
/-- a constant of the module: two numbers -/
theorem glob_2 {K : PySem.W.Frag} {mg : Str → Option Value} {x : Str} {f : Addr} {od : Option Addr} {i j : Int} {ti tj : Tok} {n : Nat} {sl : Array (Option Value)} (hm : mg x = some (.ref f)) (l : K.lookup f = some ⟨.type "tuple", od, .seq #[.int i ti, .int j tj] n, sl⟩) :
    ∃ v u d, mg x = some u ∧ RelV v u ∧ (some (PyData.tuple [.int i, .int j])) = some d ∧ ∀ H, Rp K H v d :=
  ⟨.ref f, .ref f, _, hm, rfl, rfl, fun H => .tup (.inr ⟨_, #[.int i ti, .int j tj], n, l, rfl, rfl, by show 2 ≤ sizeLine; decide, .cons (show RelV (.int i) (.int i ti) from ⟨ti, rfl⟩) (.cons (show RelV (.int j) (.int j tj) from ⟨tj, rfl⟩) .nil)⟩) (.cons (.int i) (.cons (.int j) .nil))⟩
section
variable {α : Type} {c : Cod α} {n : Nat}
theorem ne_self_c (h : CodOk c n) (hn : n ≤ 20) (x : α) : dCmp .ne (c.enc x) (c.enc x) = some false := by
  classical
  rw [d_ne h hn]
  simp
theorem eq_self_c (h : CodOk c n) (hn : n ≤ 20) (x : α) : dCmp .eq (c.enc x) (c.enc x) = some true := by
  classical
  rw [d_eq h hn]
  simp
theorem ne_nil_c (h : CodOk c n) (hn : n < 20) (xs : List α) : dCmp .ne (.list (xs.map c.enc)) (.list []) = some (!xs.isEmpty) := by
  classical
  rw [show PyData.list (xs.map c.enc) = (cL c).enc xs from rfl, show PyData.list [] = (cL c).enc [] from rfl, d_ne (ok_L h) (by omega)]
  cases xs <;> simp
theorem eq_nil_c (h : CodOk c n) (hn : n < 20) (xs : List α) : dCmp .eq (.list (xs.map c.enc)) (.list []) = some xs.isEmpty := by
  classical
  rw [show PyData.list (xs.map c.enc) = (cL c).enc xs from rfl, show PyData.list [] = (cL c).enc [] from rfl, d_eq (ok_L h) (by omega)]
  cases xs <;> simp
end
theorem rng_nat (n : Nat) : rng 0 (n : Int) = (List.range n).map cNat.enc := by
  rw [rng_map, show ((n : Int) - 0).toNat = n by omega]
  exact List.map_congr_left fun k _ => by simp
theorem rng_1 (n : Nat) : rng 1 ((n : Int) + 1) = (List.range n).map fun (k : Nat) => PyData.int ((k : Int) + 1) := by
  rw [rng_map, show ((n : Int) + 1 - 1).toNat = n by omega]
  exact List.map_congr_left fun k _ => by rw [Int.add_comm]
theorem okR_nat {n : Nat} (h : n ≤ 1000) : okR 0 (n : Int) = true := by unfold okR LINE; exact decide_eq_true (by omega)
theorem okR_1 {n : Nat} (h : n ≤ 1000) : okR 1 ((n : Int) + 1) = true := by unfold okR LINE; exact decide_eq_true (by omega)
theorem slot_enc {α : Type} {c : Cod α} (h : ∀ x, ∃ ds, c.enc x = .tuple ds) (e : E) (x : α) : slotOf e (c.enc x) = .sh (c.enc x) := by
  obtain ⟨ds, q⟩ := h x
  rw [q]
  exact slot_tup
theorem Wr.call {T : Nat → List D → Option D} {f : Nat} {ds : List D} {v : D} {Q : D → Prop} (h : T f ds = some v) (q : Wr (Q v)) : Wr ((fun n ds => ofO (T n ds) : Nat → List D → W D) f ds Q) := Wr.mk ⟨v, h, q.out⟩
/-- a loop, by the turn -/
theorem forL_idx {α : Type} {g : D → Env → Option Fl} {ρ0 : Env} (e : α → D) (st : Nat → Env) : ∀ (xs : List α) (s : Nat),
    (∀ k (hk : k < xs.length), ∃ ρ', g (e xs[k]) (st (s + k)) = some (.nx ρ') ∧ msk ρ0 ρ' = st (s + k + 1)) → forL optM g ρ0 (xs.map e) (st s) = some (.nx (st (s + xs.length)))
  | [], s, _ => by unfold forL; rfl
  | x :: xs, s, h => by
    obtain ⟨ρ', h1, h2⟩ := h 0 (by simp)
    rw [List.map_cons]
    unfold forL
    have h1 : g (e x) (st s) = some (.nx ρ') := h1
    rw [o_bind, h1]
    show forL optM g ρ0 (xs.map e) (msk ρ0 ρ') = _
    have h2 : msk ρ0 ρ' = st (s + 1) := h2
    rw [h2, forL_idx e st xs (s + 1) fun k hk => by
      have := h (k + 1) (by simp; omega)
      rw [show s + 1 + k = s + (k + 1) by omega]
      exact this, List.length_cons, show s + 1 + xs.length = s + (xs.length + 1) by omega]
/-- a loop over numbers from 0 on -/
theorem forL_rng {g : D → Env → Option Fl} {ρ0 : Env} (st : Nat → Env) (n : Nat) (h : ∀ k, k < n → ∃ ρ', g (.int k) (st k) = some (.nx ρ') ∧ msk ρ0 ρ' = st (k + 1)) : forL optM g ρ0 ((List.range n).map cNat.enc) (st 0) = some (.nx (st n)) := by
  have key := forL_idx (g := g) (ρ0 := ρ0) cNat.enc st (List.range n) 0 fun k hk => by
    rw [List.length_range] at hk
    obtain ⟨ρ', h1, h2⟩ := h k hk
    refine ⟨ρ', ?_, ?_⟩
    · rw [List.getElem_range, Nat.zero_add]
      exact h1
    · rw [Nat.zero_add]
      exact h2
  rw [List.length_range, Nat.zero_add] at key
  exact key
/-- a row picked out of a list or a tuple -/
def gPick2 : List D → W D := fun ds R => ∃ xs : List D, (ds = [.list xs] ∨ ds = [.tuple xs]) ∧ 0 < xs.length ∧ ∀ x ∈ xs, R x
theorem Wr.pick2 {xs : List D} {Q : D → Prop} (h0 : xs ≠ []) (h : ∀ x ∈ xs, Wr (Q x)) : Wr (gPick2 [.list xs] Q) := Wr.mk ⟨xs, .inl rfl, List.length_pos_iff.mpr h0, fun x hx => (h x hx).out⟩
theorem Wr.pick2t {xs : List D} {Q : D → Prop} (h0 : xs ≠ []) (h : ∀ x ∈ xs, Wr (Q x)) : Wr (gPick2 [.tuple xs] Q) := Wr.mk ⟨xs, .inr rfl, List.length_pos_iff.mpr h0, fun x hx => (h x hx).out⟩
section
variable {PG : Program} {W0 : World} {K : PySem.W.Frag} {mg : Str → Option Value} {base : Heap} {k j : Nat} {x : Str} {st : Stmt} {N ps : List Str}
/-- a def by another table than its own promise (one that calls itself) -/
theorem mk_pureR {C : Nat → Option D} {T : Nat → List D → Option D} {GG : Nat → List D → W D} {fs : List (Nat × Str × Nat × Bool)} {gl : List (Nat × Str)} (h : Has K mg x st) (hbd : Bnd x st ps) (m : Md PG W0 K mg base ⟨C, fun n ds => ofO (T n ds), GG, none, 1000⟩ fs gl k) (S : FnScope N ps (defScope st)) (hps : ps.length ≤ N.length) {b : Ss}
    (hc : chkSs ⟨N, defScope st, defScope st, 1000, fs, gl⟩ b (defBody st) = true) {g : List D → Option D} (hr : ∀ ds d, g ds = some d → run optM C T (fun _ _ => none) N.length b ds = some d) : DefOk PG W0 K mg base (k + 1) x (spF ps.length (fun ds => ofO (g ds)) K) := by
  obtain ⟨a, fd, h1, h2, F⟩ := h
  refine ⟨a, fd, ps, h1, h2, F.binds hbd, fn_pure m rfl F S hps hc fun ds R q => ?_⟩
  obtain ⟨d, hd, q⟩ := q
  exact gv_run (fun n ds => gv_ofO _) (fun n ds => gv_none) N.length b ds d (hr ds d hd) R q
/-- no promise at all -/
theorem mk_vac (h : Has K mg x st) (hbd : Bnd x st ps) : DefOk PG W0 K mg base k x (spF ps.length (fun _ => ofO none) K) := by
  obtain ⟨a, fd, h1, h2, F⟩ := h
  refine ⟨a, fd, ps, h1, h2, F.binds hbd, ⟨fun vs H Q E h => h.1, fun A outer s H args us vs Q E hr he hb hv hs => ?_⟩⟩
  obtain ⟨_, _, _, _, _, _, ⟨_, q, _⟩, _⟩ := hs
  cases q
end
end PV

set_option maxHeartbeats 4000000
/-! PV: fractions in least terms, more. -/
namespace PV
open PySem
theorem cop_dvd {u a b : Int} (h : Int.gcd u a = 1) (h2 : u ∣ a * b) : u ∣ b := by
  have e : Int.gcd (u * b) (a * b) = b.natAbs := by rw [Int.gcd_mul_right, h, Nat.one_mul]
  have h7 : u ∣ (Int.gcd (u * b) (a * b) : Int) := Int.dvd_coe_gcd (Int.dvd_mul_of_dvd_left (Int.dvd_refl u)) h2
  rw [e] at h7
  exact Int.dvd_natAbs.mp h7
theorem pos_left {c q : Int} (h : 0 < c * q) (hq : 0 < q) : 0 < c := by
  by_cases h1 : 0 < c
  · exact h1
  · have : c * q ≤ 0 * q := Int.mul_le_mul_of_nonneg_right (by omega) (Int.le_of_lt hq)
    omega
structure Red (p : Int × Int) : Prop where
  pos : 0 < p.2
  cop : Int.gcd p.1 p.2 = 1
theorem fr_red {a b : Int} (h : 0 < b) : Red (fr a b) := by
  have hg := gcd_pos (a := a) h
  have e1 := fdiv_dvd hg (Int.gcd_dvd_left .. : (Int.gcd a b : Int) ∣ a)
  have e2 := fdiv_dvd hg (Int.gcd_dvd_right .. : (Int.gcd a b : Int) ∣ b)
  refine ⟨(fr_rep h).pos, ?_⟩
  have key : Int.gcd ((fr a b).1 * (Int.gcd a b : Int)) ((fr a b).2 * (Int.gcd a b : Int)) = Int.gcd (fr a b).1 (fr a b).2 * Int.gcd a b := by
    rw [Int.gcd_mul_right]
    simp
  have e3 : (fr a b).1 * (Int.gcd a b : Int) = a := e1
  have e4 : (fr a b).2 * (Int.gcd a b : Int) = b := e2
  rw [e3, e4] at key
  have hg' : 0 < Int.gcd a b := by omega
  have : 1 * Int.gcd a b = Int.gcd (fr a b).1 (fr a b).2 * Int.gcd a b := by rw [← key, Nat.one_mul]
  exact (Nat.eq_of_mul_eq_mul_right hg' this).symm
theorem red_one (a : Int) : Red (a, 1) := ⟨Int.one_pos, by simp⟩
theorem FR.dvd {p : Int × Int} {a b : Int} (h : FR p a b) (r : Red p) : p.2 ∣ b := by
  have h1 : p.2 ∣ p.1 * b := ⟨a, by rw [h.eq, Int.mul_comm]⟩
  exact cop_dvd (by rw [Int.gcd_comm]; exact r.cop) h1
theorem FR.le {p : Int × Int} {a b : Int} (h : FR p a b) (r : Red p) : p.2 ≤ b := Int.le_of_dvd h.pos2 (h.dvd r)
theorem FR.uniq {p q : Int × Int} {a b c d : Int} (h : FR p a b) (r : Red p) (h' : FR q c d) (r' : Red q) (e : a * d = c * b) : p = q := by
  have key : p.1 * q.2 = q.1 * p.2 := by
    have bd : b * d ≠ 0 := Int.ne_of_gt (Int.mul_pos h.pos2 h'.pos2)
    refine Int.eq_of_mul_eq_mul_right bd ?_
    rw [show p.1 * q.2 * (b * d) = (p.1 * b) * (q.2 * d) by ac_rfl, h.eq, show q.1 * p.2 * (b * d) = (q.1 * d) * (p.2 * b) by ac_rfl, h'.eq]
    rw [show a * p.2 * (q.2 * d) = (a * d) * (p.2 * q.2) by ac_rfl, e]
    ac_rfl
  have d1 : p.2 ∣ q.2 := cop_dvd (a := p.1) (by rw [Int.gcd_comm]; exact r.cop) ⟨q.1, by rw [key, Int.mul_comm]⟩
  have d2 : q.2 ∣ p.2 := cop_dvd (a := q.1) (by rw [Int.gcd_comm]; exact r'.cop) ⟨p.1, by rw [← key, Int.mul_comm]⟩
  have e2 : p.2 = q.2 := Int.le_antisymm (Int.le_of_dvd r'.pos d1) (Int.le_of_dvd r.pos d2)
  have e1 : p.1 = q.1 := by
    rw [e2] at key
    exact Int.eq_of_mul_eq_mul_right (Int.ne_of_gt r'.pos) key
  exact Prod.ext e1 e2
theorem fr_self {p : Int × Int} (r : Red p) : fr p.1 p.2 = p := by
  unfold fr
  rw [r.cop]
  exact Prod.ext (by simp) (by simp)
theorem FR.refl {p : Int × Int} (r : Red p) : FR p p.1 p.2 := ⟨r.pos, r.pos, rfl⟩
theorem FR.mul {p q : Int × Int} {a b c d : Int} (h : FR p a b) (h' : FR q c d) : FR (fr (p.1 * q.1) (p.2 * q.2)) (a * c) (b * d) := by
  have r := fr_rep (a := p.1 * q.1) (Int.mul_pos h.pos h'.pos)
  generalize fr (p.1 * q.1) (p.2 * q.2) = z at r ⊢
  refine ⟨r.pos, Int.mul_pos h.pos2 h'.pos2, ?_⟩
  have pq : p.2 * q.2 ≠ 0 := Int.ne_of_gt (Int.mul_pos h.pos h'.pos)
  refine Int.eq_of_mul_eq_mul_right pq ?_
  rw [show z.1 * (b * d) * (p.2 * q.2) = z.1 * (p.2 * q.2) * (b * d) by ac_rfl, r.eq]
  rw [show p.1 * q.1 * z.2 * (b * d) = (p.1 * b) * (q.1 * d) * z.2 by ac_rfl, h.eq, h'.eq]
  ac_rfl
theorem FR.num_pos {q : Int × Int} {c d : Int} (h : FR q c d) : 0 < q.1 ↔ 0 < c := by
  have h1 := h.eq
  constructor
  · intro hq
    have : 0 < c * q.2 := by rw [← h1]; exact Int.mul_pos hq h.pos2
    exact pos_left this h.pos
  · intro hc
    have : 0 < q.1 * d := by rw [h1]; exact Int.mul_pos hc h.pos
    exact pos_left this h.pos2
theorem FR.div {p q : Int × Int} {a b c d : Int} (h : FR p a b) (h' : FR q c d) (hc : 0 < c) : FR (fr (p.1 * q.2) (p.2 * q.1)) (a * d) (b * c) := by
  have hq := h'.num_pos.mpr hc
  exact h.mul (q := (q.2, q.1)) (c := d) (d := c) ⟨hq, hc, by simp only; rw [Int.mul_comm q.2 c, ← h'.eq, Int.mul_comm]⟩
/-- what the divisor of a sum's parts may be -/
theorem gcd_sum {x y b d : Int} (hb : Int.gcd x b = 1) (hd : Int.gcd y d = 1) : Int.gcd (x * d + y * b) (b * d) ∣ Int.gcd b d * Int.gcd b d := by
  -- g divides b * d and x d + y b
  have g1 : (Int.gcd (x * d + y * b) (b * d) : Int) ∣ x * d + y * b := Int.gcd_dvd_left ..
  have g2 : (Int.gcd (x * d + y * b) (b * d) : Int) ∣ b * d := Int.gcd_dvd_right ..
  generalize hg : (Int.gcd (x * d + y * b) (b * d) : Int) = g at g1 g2
  -- g divides b² y and d² x, hence with the coprimes b², d²
  have h1 : g ∣ y * (b * b) := by
    have : y * (b * b) = (x * d + y * b) * b - x * (b * d) := by
      rw [Int.add_mul, show x * (b * d) = x * d * b by ac_rfl, show y * b * b = y * (b * b) by ac_rfl]
      omega
    rw [this]
    exact Int.dvd_sub (Int.dvd_mul_of_dvd_left g1) (Int.dvd_mul_of_dvd_right g2)
  have h2 : g ∣ x * (d * d) := by
    have : x * (d * d) = (x * d + y * b) * d - y * (b * d) := by
      rw [Int.add_mul, show y * b * d = y * (b * d) by ac_rfl, show x * d * d = x * (d * d) by ac_rfl]
      omega
    rw [this]
    exact Int.dvd_sub (Int.dvd_mul_of_dvd_left g1) (Int.dvd_mul_of_dvd_right g2)
  have h3 : g ∣ d * (b * b) := by rw [show d * (b * b) = (b * d) * b by ac_rfl]; exact Int.dvd_mul_of_dvd_left g2
  have h4 : g ∣ b * (d * d) := by rw [show b * (d * d) = (b * d) * d by ac_rfl]; exact Int.dvd_mul_of_dvd_left g2
  have comb : ∀ {u v m : Int}, Int.gcd u v = 1 → g ∣ u * m → g ∣ v * m → g ∣ m := fun {u v m} huv h5 h6 => by
    have : Int.gcd (u * m) (v * m) = m.natAbs := by rw [Int.gcd_mul_right, huv, Nat.one_mul]
    have h7 : g ∣ (Int.gcd (u * m) (v * m) : Int) := Int.dvd_coe_gcd h5 h6
    rw [this] at h7
    exact Int.dvd_natAbs.mp h7
  have k1 : g ∣ b * b := comb hd h1 h3
  have k2 : g ∣ d * d := comb hb h2 h4
  have k3 : g ∣ (Int.gcd (b * b) (d * d) : Int) := Int.dvd_coe_gcd k1 k2
  have k4 : Int.gcd (b * b) (d * d) = Int.gcd b d * Int.gcd b d := by
    have := Int.pow_gcd_pow (m := d) (n := b) (k := 2)
    simp only [Int.pow_succ, Int.pow_zero, Int.one_mul, Nat.pow_succ, Nat.pow_zero, Nat.one_mul] at this
    exact this
  rw [k4] at k3
  rw [← hg] at k3
  exact Int.ofNat_dvd.mp (by simpa using k3)
theorem FR.scale {p : Int × Int} {a b k : Int} (h : FR p (a * k) (b * k)) (hk : 0 < k) : FR p a b := by
  have hb : 0 < b := pos_left h.pos2 hk
  refine ⟨h.pos, hb, ?_⟩
  refine Int.eq_of_mul_eq_mul_right (Int.ne_of_gt hk) ?_
  rw [Int.mul_assoc, h.eq]
  ac_rfl
theorem FR.scale_up {p : Int × Int} {a b k : Int} (h : FR p a b) (hk : 0 < k) : FR p (a * k) (b * k) := by
  refine ⟨h.pos, Int.mul_pos h.pos2 hk, ?_⟩
  rw [← Int.mul_assoc, h.eq]
  ac_rfl
theorem FR.num_le {p : Int × Int} {a b m : Int} (h : FR p a b) (r : Red p) (ha : a.natAbs ≤ m) : (p.1.natAbs : Int) ≤ m := by
  have h1 : p.1.natAbs * b.natAbs = a.natAbs * p.2.natAbs := by rw [← Int.natAbs_mul, h.eq, Int.natAbs_mul]
  have h2 := h.le r
  have h3 := h.pos
  have h4 : p.1.natAbs * p.2.natAbs ≤ a.natAbs * p.2.natAbs := by
    rw [← h1]
    exact Nat.mul_le_mul_left _ (by omega)
  have := Nat.le_of_mul_le_mul_right h4 (by omega)
  omega
/-! sums and the like, with what the model needs -/
def fadd (p q : Int × Int) : Int × Int := fr (p.1 * q.2 + q.1 * p.2) (p.2 * q.2)
def fsub (p q : Int × Int) : Int × Int := fr (p.1 * q.2 - q.1 * p.2) (p.2 * q.2)
def fmul (p q : Int × Int) : Int × Int := fr (p.1 * q.1) (p.2 * q.2)
def fdv (p q : Int × Int) : Int × Int := fr (p.1 * q.2) (p.2 * q.1)
def flt (p q : Int × Int) : Bool := decide (p.1 * q.2 < q.1 * p.2)
def okG (_ b : Int) : Bool := decide (0 < b ∧ b < 2 ^ 190)
def okS (p q : Int × Int) : Bool := small64 p.2 && small64 q.2
theorem okG_of {a b : Int} (h : 0 < b ∧ b < 2 ^ 190) : okG a b = true := decide_eq_true h
def S_frG := spec (A2 cInt cInt) (fun p => okG p.1 p.2) fun p => cF.enc (fr p.1 p.2)
def S_comG := spec (A2 cInt cInt) (fun p => decide (0 < p.2 ∧ p.2 < 2 ^ 190)) fun p => .int (Int.gcd p.1 p.2)
def okAdd (p q : Int × Int) : Bool := okS p q && okG (p.1 * q.2 + q.1 * p.2) (p.2 * q.2)
def okSub (p q : Int × Int) : Bool := okS p q && okG (p.1 * q.2 - q.1 * p.2) (p.2 * q.2)
def okMul (p q : Int × Int) : Bool := okS p q && ((small64 p.1 || small64 q.1) && okG (p.1 * q.1) (p.2 * q.2))
def okDv (p q : Int × Int) : Bool := okS p q && okG (p.1 * q.2) (p.2 * q.1)
def S_add := spec (A2 cF cF) (fun z => okAdd z.1 z.2) fun z => cF.enc (fadd z.1 z.2)
def S_sub := spec (A2 cF cF) (fun z => okSub z.1 z.2) fun z => cF.enc (fsub z.1 z.2)
def S_mul := spec (A2 cF cF) (fun z => okMul z.1 z.2) fun z => cF.enc (fmul z.1 z.2)
def S_dv := spec (A2 cF cF) (fun z => okDv z.1 z.2) fun z => cF.enc (fdv z.1 z.2)
def S_lt := spec (A2 cF cF) (fun z => okS z.1 z.2) fun z => .bool (flt z.1 z.2)
def ftot (xs : List (Int × Int)) : Int × Int := xs.foldl fadd (0, 1)
def okTot : (Int × Int) → List (Int × Int) → Bool
  | _, [] => true
  | a, x :: xs => okAdd a x && okTot (fadd a x) xs
def S_tot := spec (A1 (cL cF)) (fun xs => okTot (0, 1) xs) fun xs => cF.enc (ftot xs)
/-- Euclid's steps -/
theorem euclid (n : Nat) : ∀ (m : Nat) (s : Int × Int), 0 ≤ s.2 → s.2 < 2 ^ m → 2 * m ≤ n → (loopN (fun s : Int × Int => (s.2, s.1.fmod s.2)) (fun s => !decide (s.2 = 0)) n s).2 = 0 ∧ (loopN (fun s : Int × Int => (s.2, s.1.fmod s.2)) (fun s => !decide (s.2 = 0)) n s).1.natAbs = Int.gcd s.1 s.2 := by
  induction n using Nat.strongRecOn with
  | ind n ih =>
    intro m s h0 h1 hn
    have zero : ∀ (n : Nat) (s : Int × Int), s.2 = 0 → loopN (fun s : Int × Int => (s.2, s.1.fmod s.2)) (fun s => !decide (s.2 = 0)) n s = s := fun n s e => by
      cases n with
      | zero => rfl
      | succ n => unfold loopN; rw [if_neg (by simp [e])]
    by_cases e : s.2 = 0
    · rw [zero n s e]
      exact ⟨e, by rw [e, Int.gcd_zero_right]⟩
    · cases m with
      | zero =>
        rw [Int.pow_zero] at h1
        omega
      | succ m =>
        obtain ⟨k, rfl⟩ : ∃ k, n = k + 2 := ⟨n - 2, by omega⟩
        have hpos : 0 < s.2 := by omega
        have f1 := Int.fmod_nonneg_of_pos s.1 hpos
        have f2 := Int.fmod_lt_of_pos s.1 hpos
        have e1 : loopN (fun s : Int × Int => (s.2, s.1.fmod s.2)) (fun s => !decide (s.2 = 0)) (k + 2) s = loopN (fun s : Int × Int => (s.2, s.1.fmod s.2)) (fun s => !decide (s.2 = 0)) (k + 1) (s.2, s.1.fmod s.2) := by
          conv => { lhs; unfold loopN }
          rw [if_pos (by simp [e])]
        have g1 : Int.gcd s.2 (s.1.fmod s.2) = Int.gcd s.1 s.2 := gcd_fmod _ _
        rw [e1, ← g1]
        generalize s.1.fmod s.2 = r at f1 f2
        by_cases er : r = 0
        · rw [zero _ _ (by exact er)]
          exact ⟨er, by rw [er, Int.gcd_zero_right]⟩
        · have rpos : 0 < r := by omega
          have f3 := Int.fmod_nonneg_of_pos s.2 rpos
          have f4 := Int.fmod_lt_of_pos s.2 rpos
          have e2 : loopN (fun s : Int × Int => (s.2, s.1.fmod s.2)) (fun s => !decide (s.2 = 0)) (k + 1) (s.2, r) = loopN (fun s : Int × Int => (s.2, s.1.fmod s.2)) (fun s => !decide (s.2 = 0)) k (r, s.2.fmod r) := by
            conv => { lhs; unfold loopN }
            rw [if_pos (by simp [er])]
          have g2 : Int.gcd r (s.2.fmod r) = Int.gcd s.2 r := gcd_fmod _ _
          rw [e2, ← g2]
          refine ih k (by omega) m (r, s.2.fmod r) f3 ?_ (by omega)
          simp only
          have hd : s.2 = r * s.2.fdiv r + s.2.fmod r := by
            have := Int.fmod_def s.2 r
            omega
          have hq : 1 ≤ s.2.fdiv r := by
            rcases Int.lt_trichotomy 0 (s.2.fdiv r) with q | q | q
            · omega
            · rw [← q, Int.mul_zero] at hd
              omega
            · have : r * s.2.fdiv r ≤ r * (-1) := Int.mul_le_mul_of_nonneg_left (by omega) (by omega)
              omega
          have : r * 1 ≤ r * s.2.fdiv r := Int.mul_le_mul_of_nonneg_left hq (by omega)
          rw [Int.pow_succ] at h1
          omega
end PV

set_option maxHeartbeats 4000000
/-! The defs of the law, as core terms. -/
namespace PW
open PySem PyProof.Rows L2 PV

def topS (i : Nat) : Stmt := PySem.Challenge.pw_bondslaid_k04_whole_what_bears_what.main.body.getD i (.Pass ⟨0, 0, 0, 0⟩)
abbrev id_common : Nat := 0
abbrev id_is_less : Nat := 1
abbrev id_ends_of : Nat := 2
abbrev id_law_draws : Nat := 3
abbrev id_law_next : Nat := 4
abbrev id_law_same : Nat := 5
abbrev id_law_fraction : Nat := 6
abbrev id_law_less : Nat := 7
abbrev id_law_ends : Nat := 8
abbrev id_fraction : Nat := 9
abbrev id_law_pick : Nat := 10
abbrev id_law_plus : Nat := 11
abbrev id_law_times : Nat := 12
abbrev id_law_course : Nat := 13
abbrev id_law_part : Nat := 14
abbrev id_plus : Nat := 15
abbrev id_times : Nat := 16
abbrev id_parted : Nat := 17
abbrev id_shared : Nat := 18
abbrev id_law_loads : Nat := 19
abbrev id_total : Nat := 20
abbrev id_by_length : Nat := 21
abbrev id_law_crushed : Nat := 22
abbrev id_pressed : Nat := 23
abbrev id_loads_of : Nat := 24
abbrev id_heaviest_load : Nat := 25
abbrev id_foot_loads : Nat := 26
abbrev id_crushed : Nat := 27
abbrev id_evenly_borne : Nat := 28
abbrev id_highest_laid : Nat := 29
abbrev id_law : Nat := 30
abbrev s_common : Stmt := topS 1
abbrev n_common : List Str := ["a", "b"]
theorem sc_common : FnScope n_common ["a", "b"] (defScope s_common) := ⟨rfl, rfl, rfl, by decide +kernel, rfl, by decide +kernel, by decide +kernel⟩
abbrev s_is_less : Stmt := topS 6
abbrev n_is_less : List Str := ["one", "other"]
theorem sc_is_less : FnScope n_is_less ["one", "other"] (defScope s_is_less) := ⟨rfl, rfl, rfl, by decide +kernel, rfl, by decide +kernel, by decide +kernel⟩
abbrev s_ends_of : Stmt := topS 9
abbrev n_ends_of : List Str := ["course", "found", "at", "long"]
theorem sc_ends_of : FnScope n_ends_of ["course"] (defScope s_ends_of) := ⟨rfl, rfl, rfl, by decide +kernel, rfl, by decide +kernel, by decide +kernel⟩
abbrev s_law_draws : Stmt := topS 21
abbrev n_law_draws : List Str := ["script", "many", "draws", "mixed", "k", "cell", "rest", "turn"]
theorem sc_law_draws : FnScope n_law_draws ["script", "many"] (defScope s_law_draws) := ⟨rfl, rfl, rfl, by decide +kernel, rfl, by decide +kernel, by decide +kernel⟩
abbrev s_law_next : Stmt := topS 22
abbrev n_law_next : List Str := ["w", "many"]
theorem sc_law_next : FnScope n_law_next ["w", "many"] (defScope s_law_next) := ⟨rfl, rfl, rfl, by decide +kernel, rfl, by decide +kernel, by decide +kernel⟩
abbrev s_law_same : Stmt := topS 23
abbrev n_law_same : List Str := ["seen", "due", "waiting", "one", "other", "keys", "key", "k"]
theorem sc_law_same : FnScope n_law_same ["seen", "due"] (defScope s_law_same) := ⟨rfl, rfl, rfl, by decide +kernel, rfl, by decide +kernel, by decide +kernel⟩
abbrev s_law_fraction : Stmt := topS 25
abbrev n_law_fraction : List Str := ["top", "under", "one", "two"]
theorem sc_law_fraction : FnScope n_law_fraction ["top", "under"] (defScope s_law_fraction) := ⟨rfl, rfl, rfl, by decide +kernel, rfl, by decide +kernel, by decide +kernel⟩
abbrev s_law_less : Stmt := topS 28
abbrev n_law_less : List Str := ["one", "other"]
theorem sc_law_less : FnScope n_law_less ["one", "other"] (defScope s_law_less) := ⟨rfl, rfl, rfl, by decide +kernel, rfl, by decide +kernel, by decide +kernel⟩
abbrev s_law_ends : Stmt := topS 30
abbrev n_law_ends : List Str := ["course", "n"]
theorem sc_law_ends : FnScope n_law_ends ["course"] (defScope s_law_ends) := ⟨rfl, rfl, rfl, by decide +kernel, rfl, by decide +kernel, by decide +kernel⟩
abbrev s_fraction : Stmt := topS 2
abbrev n_fraction : List Str := ["a", "b", "by"]
theorem sc_fraction : FnScope n_fraction ["a", "b"] (defScope s_fraction) := ⟨rfl, rfl, rfl, by decide +kernel, rfl, by decide +kernel, by decide +kernel⟩
abbrev s_law_pick : Stmt := topS 24
abbrev n_law_pick : List Str := ["w", "rows"]
theorem sc_law_pick : FnScope n_law_pick ["w", "rows"] (defScope s_law_pick) := ⟨rfl, rfl, rfl, by decide +kernel, rfl, by decide +kernel, by decide +kernel⟩
abbrev s_law_plus : Stmt := topS 26
abbrev n_law_plus : List Str := ["one", "other"]
theorem sc_law_plus : FnScope n_law_plus ["one", "other"] (defScope s_law_plus) := ⟨rfl, rfl, rfl, by decide +kernel, rfl, by decide +kernel, by decide +kernel⟩
abbrev s_law_times : Stmt := topS 27
abbrev n_law_times : List Str := ["one", "other"]
theorem sc_law_times : FnScope n_law_times ["one", "other"] (defScope s_law_times) := ⟨rfl, rfl, rfl, by decide +kernel, rfl, by decide +kernel, by decide +kernel⟩
abbrev s_law_course : Stmt := topS 29
abbrev n_law_course : List Str := ["w", "wide", "found", "left", "long"]
theorem sc_law_course : FnScope n_law_course ["w", "wide"] (defScope s_law_course) := ⟨rfl, rfl, rfl, by decide +kernel, rfl, by decide +kernel, by decide +kernel⟩
abbrev s_law_part : Stmt := topS 31
abbrev n_law_part : List Str := ["one", "other"]
theorem sc_law_part : FnScope n_law_part ["one", "other"] (defScope s_law_part) := ⟨rfl, rfl, rfl, by decide +kernel, rfl, by decide +kernel, by decide +kernel⟩
abbrev s_plus : Stmt := topS 3
abbrev n_plus : List Str := ["one", "other"]
theorem sc_plus : FnScope n_plus ["one", "other"] (defScope s_plus) := ⟨rfl, rfl, rfl, by decide +kernel, rfl, by decide +kernel, by decide +kernel⟩
abbrev s_times : Stmt := topS 4
abbrev n_times : List Str := ["one", "other"]
theorem sc_times : FnScope n_times ["one", "other"] (defScope s_times) := ⟨rfl, rfl, rfl, by decide +kernel, rfl, by decide +kernel, by decide +kernel⟩
abbrev s_parted : Stmt := topS 5
abbrev n_parted : List Str := ["one", "other"]
theorem sc_parted : FnScope n_parted ["one", "other"] (defScope s_parted) := ⟨rfl, rfl, rfl, by decide +kernel, rfl, by decide +kernel, by decide +kernel⟩
abbrev s_shared : Stmt := topS 11
abbrev n_shared : List Str := ["wall", "k", "n", "m", "begin", "end", "first", "last"]
theorem sc_shared : FnScope n_shared ["wall", "k", "n", "m"] (defScope s_shared) := ⟨rfl, rfl, rfl, by decide +kernel, rfl, by decide +kernel, by decide +kernel⟩
abbrev s_law_loads : Stmt := topS 32
abbrev n_law_loads : List Str := ["wall", "extra", "loads", "k", "above", "below", "row", "n", "whole", "own", "span", "m"]
theorem sc_law_loads : FnScope n_law_loads ["wall", "extra"] (defScope s_law_loads) := ⟨rfl, rfl, rfl, by decide +kernel, rfl, by decide +kernel, by decide +kernel⟩
abbrev s_total : Stmt := topS 7
abbrev n_total : List Str := ["fractions", "found", "one"]
theorem sc_total : FnScope n_total ["fractions"] (defScope s_total) := ⟨rfl, rfl, rfl, by decide +kernel, rfl, by decide +kernel, by decide +kernel⟩
abbrev s_by_length : Stmt := topS 18
abbrev n_by_length : List Str := ["load", "long"]
theorem sc_by_length : FnScope n_by_length ["load", "long"] (defScope s_by_length) := ⟨rfl, rfl, rfl, by decide +kernel, rfl, by decide +kernel, by decide +kernel⟩
abbrev s_law_crushed : Stmt := topS 33
abbrev n_law_crushed : List Str := ["wall", "strength", "loads", "found", "k", "n"]
theorem sc_law_crushed : FnScope n_law_crushed ["wall", "strength"] (defScope s_law_crushed) := ⟨rfl, rfl, rfl, by decide +kernel, rfl, by decide +kernel, by decide +kernel⟩
abbrev s_pressed : Stmt := topS 12
abbrev n_pressed : List Str := ["wall", "extra", "found", "k", "row", "m", "parts", "n", "one"]
theorem sc_pressed : FnScope n_pressed ["wall", "extra"] (defScope s_pressed) := ⟨rfl, rfl, rfl, by decide +kernel, rfl, by decide +kernel, by decide +kernel⟩
abbrev s_loads_of : Stmt := topS 13
abbrev n_loads_of : List Str := ["wall"]
theorem sc_loads_of : FnScope n_loads_of ["wall"] (defScope s_loads_of) := ⟨rfl, rfl, rfl, by decide +kernel, rfl, by decide +kernel, by decide +kernel⟩
abbrev s_heaviest_load : Stmt := topS 14
abbrev n_heaviest_load : List Str := ["wall", "best", "loads", "k", "n"]
theorem sc_heaviest_load : FnScope n_heaviest_load ["wall"] (defScope s_heaviest_load) := ⟨rfl, rfl, rfl, by decide +kernel, rfl, by decide +kernel, by decide +kernel⟩
abbrev s_foot_loads : Stmt := topS 15
abbrev n_foot_loads : List Str := ["wall", "load", "long"]
theorem sc_foot_loads : FnScope n_foot_loads ["wall"] (defScope s_foot_loads) := ⟨rfl, rfl, rfl, by decide +kernel, rfl, by decide +kernel, by decide +kernel⟩
abbrev s_crushed : Stmt := topS 16
abbrev n_crushed : List Str := ["wall", "strength", "loads", "found", "k", "n"]
theorem sc_crushed : FnScope n_crushed ["wall", "strength"] (defScope s_crushed) := ⟨rfl, rfl, rfl, by decide +kernel, rfl, by decide +kernel, by decide +kernel⟩
abbrev s_evenly_borne : Stmt := topS 19
abbrev n_evenly_borne : List Str := ["wall", "loads", "course", "rows", "load", "long", "row"]
theorem sc_evenly_borne : FnScope n_evenly_borne ["wall"] (defScope s_evenly_borne) := ⟨rfl, rfl, rfl, by decide +kernel, rfl, by decide +kernel, by decide +kernel⟩
abbrev s_highest_laid : Stmt := topS 17
abbrev n_highest_laid : List Str := ["course", "upper", "strength", "high", "wall", "k"]
theorem sc_highest_laid : FnScope n_highest_laid ["course", "upper", "strength"] (defScope s_highest_laid) := ⟨rfl, rfl, rfl, by decide +kernel, rfl, by decide +kernel, by decide +kernel⟩
abbrev s_law : Stmt := topS 34
abbrev n_law : List Str := ["script", "w", "turn", "wide", "wall", "loads", "extra", "strength", "best", "k", "n", "foot", "rates", "even", "due", "total_v", "own", "m", "course", "upper", "high", "row", "long"]
theorem sc_law : FnScope n_law ["script"] (defScope s_law) := ⟨rfl, rfl, rfl, by decide +kernel, rfl, by decide +kernel, by decide +kernel⟩
def common_B0 : Ss := (.cons (.asgp [0, 1] (.cons (.var 1) (.cons (.bin .mod (.var 0) (.var 1)) .nil)))
  .nil)
def b_common : Ss := (.cons (.whl (.cmp .ne (.var 1) (.int 0)) common_B0)
  (.cons (.ret (.bi .abs (.var 0)))
  .nil))
abbrev f_common : List (Nat × Str × Nat × Bool) := []
abbrev g_common : List (Nat × Str) := []
theorem c_common : chkSs ⟨n_common, defScope s_common, defScope s_common, 1000, f_common, g_common⟩ b_common (defBody s_common) = true := by decide +kernel
def b_is_less : Ss := (.cons (.ret (.cmp .lt (.bin .mul (.ix (.var 0) (.int 0)) (.ix (.var 1) (.int 1))) (.bin .mul (.ix (.var 1) (.int 0)) (.ix (.var 0) (.int 1)))))
  .nil)
abbrev f_is_less : List (Nat × Str × Nat × Bool) := []
abbrev g_is_less : List (Nat × Str) := []
theorem c_is_less : chkSs ⟨n_is_less, defScope s_is_less, defScope s_is_less, 1000, f_is_less, g_is_less⟩ b_is_less (defBody s_is_less) = true := by decide +kernel
def ends_of_B0 : Ss := (.cons (.app 1 (.tup (.cons (.var 2) (.cons (.bin .add (.var 2) (.var 3)) .nil))))
  (.cons (.aug 2 .add (.var 3))
  .nil))
def b_ends_of : Ss := (.cons (.asgp [1, 2] (.cons (.lst .nil) (.cons (.int 0) .nil)))
  (.cons (.for_ (.nm 3) (.val (.var 0)) ends_of_B0)
  (.cons (.ret (.bi .tuple (.var 1)))
  .nil)))
abbrev f_ends_of : List (Nat × Str × Nat × Bool) := []
abbrev g_ends_of : List (Nat × Str) := []
theorem c_ends_of : chkSs ⟨n_ends_of, defScope s_ends_of, defScope s_ends_of, 1000, f_ends_of, g_ends_of⟩ b_ends_of (defBody s_ends_of) = true := by decide +kernel
def law_same_B0 : Ss := (.cons (.popt (.tp (.cons (.nm 3) (.cons (.nm 4) .nil))) 2)
  (.cons (.ite (.isin (.var 4) .dict) (.cons (.ite (.or (.not (.isin (.var 3) .dict)) (.or (.cmp .ne (.bi .len (.var 3)) (.bi .len (.var 4))) (.cmp .ne (.comp [6] (.nm 6) (.val (.var 4)) (.cmp .notin (.var 6) (.var 3)) (.var 6)) (.lst .nil)))) (.cons (.ret (.bl false))
  .nil) .nil)
  (.cons (.asg 5 .bad)
  (.cons (.ext 2 (.bin .add (.comp [6] (.nm 6) (.val (.var 4)) .yes (.tup (.cons (.ix (.var 3) (.var 6)) (.cons (.ix (.var 4) (.var 6)) .nil)))) (.comp [6] (.nm 6) (.val (.var 4)) .yes (.tup (.cons (.ix (.var 5) (.var 6)) (.cons (.var 6) .nil))))))
  .nil))) (.cons (.ite (.or (.isin (.var 4) .tuple) (.isin (.var 4) .list)) (.cons (.ite (.or (.cmp .ne (.isin (.var 3) .tuple) (.isin (.var 4) .tuple)) (.or (.cmp .ne (.isin (.var 3) .list) (.isin (.var 4) .list)) (.cmp .ne (.bi .len (.var 3)) (.bi .len (.var 4))))) (.cons (.ret (.bl false))
  .nil) .nil)
  (.cons (.ext 2 (.comp [7] (.nm 7) (.r1 (.bi .len (.var 4))) .yes (.tup (.cons (.ix (.var 3) (.var 7)) (.cons (.ix (.var 4) (.var 7)) .nil)))))
  .nil)) (.cons (.ite (.or (.cmp .ne (.isin (.var 3) .bool) (.isin (.var 4) .bool)) (.or (.cmp .ne (.isin (.var 3) .int) (.isin (.var 4) .int)) (.or (.cmp .ne (.isin (.var 3) .str) (.isin (.var 4) .str)) (.cmp .ne (.var 3) (.var 4))))) (.cons (.ret (.bl false))
  .nil) .nil)
  .nil))
  .nil))
  .nil))
def b_law_same : Ss := (.cons (.asg 2 (.lst (.cons (.tup (.cons (.var 0) (.cons (.var 1) .nil))) .nil)))
  (.cons (.whl (.cmp .ne (.var 2) (.lst .nil)) law_same_B0)
  (.cons (.ret (.bl true))
  .nil)))
abbrev f_law_same : List (Nat × Str × Nat × Bool) := []
abbrev g_law_same : List (Nat × Str) := []
theorem c_law_same : chkSs ⟨n_law_same, defScope s_law_same, defScope s_law_same, 1000, f_law_same, g_law_same⟩ b_law_same (defBody s_law_same) = true := by decide +kernel
def law_fraction_B0 : Ss := (.cons (.asgp [2, 3] (.cons (.var 3) (.cons (.bin .mod (.bi .int (.var 2)) (.var 3)) .nil)))
  .nil)
def b_law_fraction : Ss := (.cons (.asgp [2, 3] (.cons (.bi .abs (.var 0)) (.cons (.bi .abs (.var 1)) .nil)))
  (.cons (.whl (.cmp .gt (.var 3) (.int 0)) law_fraction_B0)
  (.cons (.ret (.ife (.cmp .gt (.var 1) (.int 0)) (.tup (.cons (.bin .fdiv (.var 0) (.var 2)) (.cons (.bin .fdiv (.var 1) (.var 2)) .nil))) (.tup (.cons (.bin .sub (.int 0) (.bin .fdiv (.var 0) (.var 2))) (.cons (.bin .sub (.int 0) (.bin .fdiv (.var 1) (.var 2))) .nil)))))
  .nil)))
abbrev f_law_fraction : List (Nat × Str × Nat × Bool) := []
abbrev g_law_fraction : List (Nat × Str) := []
theorem c_law_fraction : chkSs ⟨n_law_fraction, defScope s_law_fraction, defScope s_law_fraction, 1000, f_law_fraction, g_law_fraction⟩ b_law_fraction (defBody s_law_fraction) = true := by decide +kernel
def b_law_less : Ss := (.cons (.ret (.cmp .lt (.bin .mul (.ix (.var 0) (.int 0)) (.ix (.var 1) (.int 1))) (.bin .mul (.ix (.var 1) (.int 0)) (.ix (.var 0) (.int 1)))))
  .nil)
abbrev f_law_less : List (Nat × Str × Nat × Bool) := []
abbrev g_law_less : List (Nat × Str) := []
theorem c_law_less : chkSs ⟨n_law_less, defScope s_law_less, defScope s_law_less, 1000, f_law_less, g_law_less⟩ b_law_less (defBody s_law_less) = true := by decide +kernel
def b_law_ends : Ss := (.cons (.ret (.comp [1] (.nm 1) (.r1 (.bi .len (.var 0))) .yes (.tup (.cons (.bi .sum (.sl (.var 0) .none (.var 1))) (.cons (.bi .sum (.sl (.var 0) .none (.bin .add (.var 1) (.int 1)))) .nil)))))
  .nil)
abbrev f_law_ends : List (Nat × Str × Nat × Bool) := []
abbrev g_law_ends : List (Nat × Str) := []
theorem c_law_ends : chkSs ⟨n_law_ends, defScope s_law_ends, defScope s_law_ends, 1000, f_law_ends, g_law_ends⟩ b_law_ends (defBody s_law_ends) = true := by decide +kernel
def b_fraction : Ss := (.cons (.asg 2 (.call id_common (.cons (.var 0) (.cons (.var 1) .nil))))
  (.cons (.ite (.cmp .lt (.var 1) (.int 0)) (.cons (.asg 2 (.neg (.var 2)))
  .nil) .nil)
  (.cons (.ret (.tup (.cons (.bin .fdiv (.var 0) (.var 2)) (.cons (.bin .fdiv (.var 1) (.var 2)) .nil))))
  .nil)))
abbrev f_fraction : List (Nat × Str × Nat × Bool) := [(id_common, "common", 2, false)]
abbrev g_fraction : List (Nat × Str) := []
theorem c_fraction : chkSs ⟨n_fraction, defScope s_fraction, defScope s_fraction, 1000, f_fraction, g_fraction⟩ b_fraction (defBody s_fraction) = true := by decide +kernel
def b_law_pick : Ss := (.cons (.ret (.ix (.var 1) (.callw id_law_next (.cons (.bi .len (.var 1)) .nil))))
  .nil)
abbrev f_law_pick : List (Nat × Str × Nat × Bool) := [(id_law_next, "_law_next", 2, true)]
abbrev g_law_pick : List (Nat × Str) := []
theorem c_law_pick : chkSs ⟨n_law_pick, defScope s_law_pick, defScope s_law_pick, 0, f_law_pick, g_law_pick⟩ b_law_pick (defBody s_law_pick) = true := by decide +kernel
def b_law_plus : Ss := (.cons (.ret (.call id_law_fraction (.cons (.bin .add (.bin .mul (.ix (.var 0) (.int 0)) (.ix (.var 1) (.int 1))) (.bin .mul (.ix (.var 1) (.int 0)) (.ix (.var 0) (.int 1)))) (.cons (.bin .mul (.ix (.var 0) (.int 1)) (.ix (.var 1) (.int 1))) .nil))))
  .nil)
abbrev f_law_plus : List (Nat × Str × Nat × Bool) := [(id_law_fraction, "_law_fraction", 2, false)]
abbrev g_law_plus : List (Nat × Str) := []
theorem c_law_plus : chkSs ⟨n_law_plus, defScope s_law_plus, defScope s_law_plus, 1000, f_law_plus, g_law_plus⟩ b_law_plus (defBody s_law_plus) = true := by decide +kernel
def b_law_times : Ss := (.cons (.ret (.call id_law_fraction (.cons (.bin .mul (.ix (.var 0) (.int 0)) (.ix (.var 1) (.int 0))) (.cons (.bin .mul (.ix (.var 0) (.int 1)) (.ix (.var 1) (.int 1))) .nil))))
  .nil)
abbrev f_law_times : List (Nat × Str × Nat × Bool) := [(id_law_fraction, "_law_fraction", 2, false)]
abbrev g_law_times : List (Nat × Str) := []
theorem c_law_times : chkSs ⟨n_law_times, defScope s_law_times, defScope s_law_times, 1000, f_law_times, g_law_times⟩ b_law_times (defBody s_law_times) = true := by decide +kernel
def law_course_B0 : Ss := (.cons (.asg 4 (.mn (.var 3) (.bin .add (.int 1) (.callw id_law_next (.cons (.int 4) .nil)))))
  (.cons (.asgp [2, 3] (.cons (.bin .add (.var 2) (.tup (.cons (.var 4) .nil))) (.cons (.bin .sub (.var 3) (.var 4)) .nil)))
  .nil))
def b_law_course : Ss := (.cons (.asgp [2, 3] (.cons (.tup .nil) (.cons (.var 1) .nil)))
  (.cons (.whl (.cmp .gt (.var 3) (.int 0)) law_course_B0)
  (.cons (.ret (.var 2))
  .nil)))
abbrev f_law_course : List (Nat × Str × Nat × Bool) := [(id_law_next, "_law_next", 2, true)]
abbrev g_law_course : List (Nat × Str) := []
theorem c_law_course : chkSs ⟨n_law_course, defScope s_law_course, defScope s_law_course, 0, f_law_course, g_law_course⟩ b_law_course (defBody s_law_course) = true := by decide +kernel
def b_law_part : Ss := (.cons (.ret (.call id_law_fraction (.cons (.mx (.int 0) (.bin .sub (.mn (.ix (.var 0) (.int 1)) (.ix (.var 1) (.int 1))) (.mx (.ix (.var 0) (.int 0)) (.ix (.var 1) (.int 0))))) (.cons (.bin .sub (.ix (.var 0) (.int 1)) (.ix (.var 0) (.int 0))) .nil))))
  .nil)
abbrev f_law_part : List (Nat × Str × Nat × Bool) := [(id_law_fraction, "_law_fraction", 2, false)]
abbrev g_law_part : List (Nat × Str) := []
theorem c_law_part : chkSs ⟨n_law_part, defScope s_law_part, defScope s_law_part, 1000, f_law_part, g_law_part⟩ b_law_part (defBody s_law_part) = true := by decide +kernel
def b_plus : Ss := (.cons (.ret (.call id_fraction (.cons (.bin .add (.bin .mul (.ix (.var 0) (.int 0)) (.ix (.var 1) (.int 1))) (.bin .mul (.ix (.var 1) (.int 0)) (.ix (.var 0) (.int 1)))) (.cons (.bin .mul (.ix (.var 0) (.int 1)) (.ix (.var 1) (.int 1))) .nil))))
  .nil)
abbrev f_plus : List (Nat × Str × Nat × Bool) := [(id_fraction, "fraction", 2, false)]
abbrev g_plus : List (Nat × Str) := []
theorem c_plus : chkSs ⟨n_plus, defScope s_plus, defScope s_plus, 1000, f_plus, g_plus⟩ b_plus (defBody s_plus) = true := by decide +kernel
def b_times : Ss := (.cons (.ret (.call id_fraction (.cons (.bin .mul (.ix (.var 0) (.int 0)) (.ix (.var 1) (.int 0))) (.cons (.bin .mul (.ix (.var 0) (.int 1)) (.ix (.var 1) (.int 1))) .nil))))
  .nil)
abbrev f_times : List (Nat × Str × Nat × Bool) := [(id_fraction, "fraction", 2, false)]
abbrev g_times : List (Nat × Str) := []
theorem c_times : chkSs ⟨n_times, defScope s_times, defScope s_times, 1000, f_times, g_times⟩ b_times (defBody s_times) = true := by decide +kernel
def b_parted : Ss := (.cons (.ret (.call id_fraction (.cons (.bin .mul (.ix (.var 0) (.int 0)) (.ix (.var 1) (.int 1))) (.cons (.bin .mul (.ix (.var 0) (.int 1)) (.ix (.var 1) (.int 0))) .nil))))
  .nil)
abbrev f_parted : List (Nat × Str × Nat × Bool) := [(id_fraction, "fraction", 2, false)]
abbrev g_parted : List (Nat × Str) := []
theorem c_parted : chkSs ⟨n_parted, defScope s_parted, defScope s_parted, 1000, f_parted, g_parted⟩ b_parted (defBody s_parted) = true := by decide +kernel
def b_shared : Ss := (.cons (.asgt (.tp (.cons (.nm 4) (.cons (.nm 5) .nil))) (.ix (.call id_ends_of (.cons (.ix (.var 0) (.var 1)) .nil)) (.var 2)))
  (.cons (.asgt (.tp (.cons (.nm 6) (.cons (.nm 7) .nil))) (.ix (.call id_ends_of (.cons (.ix (.var 0) (.bin .sub (.var 1) (.int 1))) .nil)) (.var 3)))
  (.cons (.ret (.call id_fraction (.cons (.mx (.int 0) (.bin .sub (.mn (.var 5) (.var 7)) (.mx (.var 4) (.var 6)))) (.cons (.bin .sub (.var 5) (.var 4)) .nil))))
  .nil)))
abbrev f_shared : List (Nat × Str × Nat × Bool) := [(id_ends_of, "ends_of", 1, false), (id_fraction, "fraction", 2, false)]
abbrev g_shared : List (Nat × Str) := []
theorem c_shared : chkSs ⟨n_shared, defScope s_shared, defScope s_shared, 1000, f_shared, g_shared⟩ b_shared (defBody s_shared) = true := by decide +kernel
def law_loads_B1 : Ss := (.cons (.asg 8 (.call id_law_plus (.cons (.ix (.ix (.var 2) (.int 0)) (.var 7)) (.cons (.tup (.cons (.ix (.ix (.var 0) (.bin .add (.var 3) (.int 1))) (.var 7)) (.cons (.int 1) .nil))) .nil))))
  (.cons (.asg 6 (.comp [11] (.nm 11) (.r1 (.bi .len (.var 5))) .yes (.call id_law_plus (.cons (.ix (.var 6) (.var 11)) (.cons (.call id_law_times (.cons (.var 8) (.cons (.call id_law_part (.cons (.ix (.var 4) (.var 7)) (.cons (.ix (.var 5) (.var 11)) .nil))) .nil))) .nil)))))
  .nil))
def law_loads_B0 : Ss := (.cons (.asgp [4, 5] (.cons (.call id_law_ends (.cons (.ix (.var 0) (.bin .add (.var 3) (.int 1))) .nil)) (.cons (.call id_law_ends (.cons (.ix (.var 0) (.var 3)) .nil)) .nil)))
  (.cons (.asg 6 (.comp [10] (.nm 10) (.val (.var 5)) .yes (.tup (.cons (.int 0) (.cons (.int 1) .nil)))))
  (.cons (.for_ (.nm 7) (.r1 (.bi .len (.var 4))) law_loads_B1)
  (.cons (.asg 2 (.bin .add (.lst (.cons (.var 6) .nil)) (.var 2)))
  .nil))))
def b_law_loads : Ss := (.cons (.asg 2 (.lst (.cons (.comp [9] (.nm 9) (.val (.var 1)) .yes (.tup (.cons (.var 9) (.cons (.int 1) .nil)))) .nil)))
  (.cons (.for_ (.nm 3) (.val (.rev (.bis .list (.r1 (.bin .sub (.bi .len (.var 0)) (.int 1)))))) law_loads_B0)
  (.cons (.ret (.bi .tuple (.comp [6] (.nm 6) (.val (.var 2)) .yes (.bi .tuple (.var 6)))))
  .nil)))
abbrev f_law_loads : List (Nat × Str × Nat × Bool) := [(id_law_ends, "_law_ends", 1, false), (id_law_plus, "_law_plus", 2, false), (id_law_times, "_law_times", 2, false), (id_law_part, "_law_part", 2, false)]
abbrev g_law_loads : List (Nat × Str) := []
theorem c_law_loads : chkSs ⟨n_law_loads, defScope s_law_loads, defScope s_law_loads, 1000, f_law_loads, g_law_loads⟩ b_law_loads (defBody s_law_loads) = true := by decide +kernel
def total_B0 : Ss := (.cons (.asg 1 (.call id_plus (.cons (.var 1) (.cons (.var 2) .nil))))
  .nil)
def b_total : Ss := (.cons (.asg 1 (.tup (.cons (.int 0) (.cons (.int 1) .nil))))
  (.cons (.for_ (.nm 2) (.val (.var 0)) total_B0)
  (.cons (.ret (.var 1))
  .nil)))
abbrev f_total : List (Nat × Str × Nat × Bool) := [(id_plus, "plus", 2, false)]
abbrev g_total : List (Nat × Str) := []
theorem c_total : chkSs ⟨n_total, defScope s_total, defScope s_total, 1000, f_total, g_total⟩ b_total (defBody s_total) = true := by decide +kernel
def b_by_length : Ss := (.cons (.ret (.call id_parted (.cons (.var 0) (.cons (.tup (.cons (.var 1) (.cons (.int 1) .nil))) .nil))))
  .nil)
abbrev f_by_length : List (Nat × Str × Nat × Bool) := [(id_parted, "parted", 2, false)]
abbrev g_by_length : List (Nat × Str) := []
theorem c_by_length : chkSs ⟨n_by_length, defScope s_by_length, defScope s_by_length, 1000, f_by_length, g_by_length⟩ b_by_length (defBody s_by_length) = true := by decide +kernel
def law_crushed_B0 : Ss := (.cons (.asg 3 (.bin .add (.var 3) (.comp [5] (.nm 5) (.r1 (.bi .len (.ix (.var 0) (.var 4)))) (.call id_law_less (.cons (.tup (.cons (.bin .mul (.var 1) (.ix (.ix (.var 0) (.var 4)) (.var 5))) (.cons (.int 1) .nil))) (.cons (.ix (.ix (.var 2) (.var 4)) (.var 5)) .nil))) (.tup (.cons (.var 4) (.cons (.var 5) .nil))))))
  .nil)
def b_law_crushed : Ss := (.cons (.asgp [2, 3] (.cons (.call id_law_loads (.cons (.var 0) (.cons (.bin .mul (.tup (.cons (.int 0) .nil)) (.bi .len (.ix (.var 0) (.neg (.int 1))))) .nil))) (.cons (.lst .nil) .nil)))
  (.cons (.for_ (.nm 4) (.r1 (.bi .len (.var 0))) law_crushed_B0)
  (.cons (.ret (.bi .tuple (.var 3)))
  .nil)))
abbrev f_law_crushed : List (Nat × Str × Nat × Bool) := [(id_law_less, "_law_less", 2, false), (id_law_loads, "_law_loads", 2, false)]
abbrev g_law_crushed : List (Nat × Str) := []
theorem c_law_crushed : chkSs ⟨n_law_crushed, defScope s_law_crushed, defScope s_law_crushed, 1000, f_law_crushed, g_law_crushed⟩ b_law_crushed (defBody s_law_crushed) = true := by decide +kernel
def pressed_B2 : Ss := (.cons (.app 6 (.call id_times (.cons (.call id_shared (.cons (.var 0) (.cons (.var 3) (.cons (.var 7) (.cons (.var 5) .nil))))) (.cons (.call id_plus (.cons (.ix (.ix (.var 2) (.int 0)) (.var 7)) (.cons (.tup (.cons (.ix (.ix (.var 0) (.var 3)) (.var 7)) (.cons (.int 1) .nil))) .nil))) .nil))))
  .nil)
def pressed_B1 : Ss := (.cons (.asg 6 (.lst .nil))
  (.cons (.for_ (.nm 7) (.r1 (.bi .len (.ix (.var 0) (.var 3)))) pressed_B2)
  (.cons (.app 4 (.call id_total (.cons (.var 6) .nil)))
  .nil)))
def pressed_B0 : Ss := (.cons (.asg 4 (.lst .nil))
  (.cons (.for_ (.nm 5) (.r1 (.bi .len (.ix (.var 0) (.bin .sub (.var 3) (.int 1))))) pressed_B1)
  (.cons (.ins0 2 (.bi .tuple (.var 4)))
  .nil)))
def b_pressed : Ss := (.cons (.asg 2 (.lst (.cons (.bi .tuple (.comp [8] (.nm 8) (.val (.var 1)) .yes (.tup (.cons (.var 8) (.cons (.int 1) .nil))))) .nil)))
  (.cons (.for_ (.nm 3) (.r3 (.bin .sub (.bi .len (.var 0)) (.int 1)) (.int 0) (.neg (.int 1))) pressed_B0)
  (.cons (.ret (.bi .tuple (.var 2)))
  .nil)))
abbrev f_pressed : List (Nat × Str × Nat × Bool) := [(id_plus, "plus", 2, false), (id_times, "times", 2, false), (id_shared, "shared", 4, false), (id_total, "total", 1, false)]
abbrev g_pressed : List (Nat × Str) := []
theorem c_pressed : chkSs ⟨n_pressed, defScope s_pressed, defScope s_pressed, 1000, f_pressed, g_pressed⟩ b_pressed (defBody s_pressed) = true := by decide +kernel
def b_loads_of : Ss := (.cons (.ret (.call id_pressed (.cons (.var 0) (.cons (.bin .mul (.tup (.cons (.int 0) .nil)) (.bi .len (.ix (.var 0) (.neg (.int 1))))) .nil))))
  .nil)
abbrev f_loads_of : List (Nat × Str × Nat × Bool) := [(id_pressed, "pressed", 2, false)]
abbrev g_loads_of : List (Nat × Str) := []
theorem c_loads_of : chkSs ⟨n_loads_of, defScope s_loads_of, defScope s_loads_of, 1000, f_loads_of, g_loads_of⟩ b_loads_of (defBody s_loads_of) = true := by decide +kernel
def heaviest_load_B1 : Ss := (.cons (.ite (.or (.cmp .is_ (.var 1) .none) (.call id_is_less (.cons (.ix (.var 1) (.int 0)) (.cons (.ix (.ix (.var 2) (.var 3)) (.var 4)) .nil)))) (.cons (.asg 1 (.tup (.cons (.ix (.ix (.var 2) (.var 3)) (.var 4)) (.cons (.var 3) (.cons (.var 4) .nil)))))
  .nil) .nil)
  .nil)
def heaviest_load_B0 : Ss := (.cons (.for_ (.nm 4) (.r1 (.bi .len (.ix (.var 2) (.var 3)))) heaviest_load_B1)
  .nil)
def b_heaviest_load : Ss := (.cons (.asg 1 .none)
  (.cons (.asg 2 (.call id_loads_of (.cons (.var 0) .nil)))
  (.cons (.for_ (.nm 3) (.r1 (.bi .len (.var 2))) heaviest_load_B0)
  (.cons (.ret (.var 1))
  .nil))))
abbrev f_heaviest_load : List (Nat × Str × Nat × Bool) := [(id_is_less, "is_less", 2, false), (id_loads_of, "loads_of", 1, false)]
abbrev g_heaviest_load : List (Nat × Str) := []
theorem c_heaviest_load : chkSs ⟨n_heaviest_load, defScope s_heaviest_load, defScope s_heaviest_load, 1000, f_heaviest_load, g_heaviest_load⟩ b_heaviest_load (defBody s_heaviest_load) = true := by decide +kernel
def b_foot_loads : Ss := (.cons (.ret (.bi .tuple (.comp [1, 2] (.tp (.cons (.nm 1) (.cons (.nm 2) .nil))) (.zip (.ix (.call id_loads_of (.cons (.var 0) .nil)) (.int 0)) (.ix (.var 0) (.int 0))) .yes (.call id_plus (.cons (.var 1) (.cons (.tup (.cons (.var 2) (.cons (.int 1) .nil))) .nil))))))
  .nil)
abbrev f_foot_loads : List (Nat × Str × Nat × Bool) := [(id_plus, "plus", 2, false), (id_loads_of, "loads_of", 1, false)]
abbrev g_foot_loads : List (Nat × Str) := []
theorem c_foot_loads : chkSs ⟨n_foot_loads, defScope s_foot_loads, defScope s_foot_loads, 1000, f_foot_loads, g_foot_loads⟩ b_foot_loads (defBody s_foot_loads) = true := by decide +kernel
def crushed_B0 : Ss := (.cons (.ext 3 (.comp [5] (.nm 5) (.r1 (.bi .len (.ix (.var 0) (.var 4)))) (.call id_is_less (.cons (.tup (.cons (.bin .mul (.var 1) (.ix (.ix (.var 0) (.var 4)) (.var 5))) (.cons (.int 1) .nil))) (.cons (.ix (.ix (.var 2) (.var 4)) (.var 5)) .nil))) (.tup (.cons (.var 4) (.cons (.var 5) .nil)))))
  .nil)
def b_crushed : Ss := (.cons (.asg 2 (.call id_loads_of (.cons (.var 0) .nil)))
  (.cons (.asg 3 (.lst .nil))
  (.cons (.for_ (.nm 4) (.r1 (.bi .len (.var 0))) crushed_B0)
  (.cons (.ret (.bi .tuple (.var 3)))
  .nil))))
abbrev f_crushed : List (Nat × Str × Nat × Bool) := [(id_is_less, "is_less", 2, false), (id_loads_of, "loads_of", 1, false)]
abbrev g_crushed : List (Nat × Str) := []
theorem c_crushed : chkSs ⟨n_crushed, defScope s_crushed, defScope s_crushed, 1000, f_crushed, g_crushed⟩ b_crushed (defBody s_crushed) = true := by decide +kernel
def evenly_borne_B0 : Ss := (.cons (.asg 3 (.comp [4, 5] (.tp (.cons (.nm 4) (.cons (.nm 5) .nil))) (.zip (.var 1) (.var 2)) .yes (.call id_by_length (.cons (.var 4) (.cons (.var 5) .nil)))))
  (.cons (.ite (.not (.bi .all (.comp [6] (.nm 6) (.val (.var 3)) .yes (.cmp .eq (.var 6) (.ix (.var 3) (.int 0)))))) (.cons (.ret (.bl false))
  .nil) .nil)
  .nil))
def b_evenly_borne : Ss := (.cons (.for_ (.tp (.cons (.nm 1) (.cons (.nm 2) .nil))) (.zip (.call id_loads_of (.cons (.var 0) .nil)) (.var 0)) evenly_borne_B0)
  (.cons (.ret (.bl true))
  .nil))
abbrev f_evenly_borne : List (Nat × Str × Nat × Bool) := [(id_by_length, "by_length", 2, false), (id_loads_of, "loads_of", 1, false)]
abbrev g_evenly_borne : List (Nat × Str) := []
theorem c_evenly_borne : chkSs ⟨n_evenly_borne, defScope s_evenly_borne, defScope s_evenly_borne, 1000, f_evenly_borne, g_evenly_borne⟩ b_evenly_borne (defBody s_evenly_borne) = true := by decide +kernel
def highest_laid_B0 : Ss := (.cons (.asg 4 (.bi .tuple (.comp [5] (.nm 5) (.r1 (.var 3)) .yes (.ife (.cmp .eq (.bin .mod (.var 5) (.int 2)) (.int 0)) (.var 0) (.var 1)))))
  (.cons (.ite (.cmp .ne (.call id_crushed (.cons (.var 4) (.cons (.var 2) .nil))) (.tup .nil)) (.cons (.ret (.bin .sub (.var 3) (.int 1)))
  .nil) .nil)
  .nil))
def b_highest_laid : Ss := (.cons (.for_ (.nm 3) (.r2 (.int 1) (.int 31)) highest_laid_B0)
  (.cons (.ret .none)
  .nil))
abbrev f_highest_laid : List (Nat × Str × Nat × Bool) := [(id_crushed, "crushed", 2, false)]
abbrev g_highest_laid : List (Nat × Str) := []
theorem c_highest_laid : chkSs ⟨n_highest_laid, defScope s_highest_laid, defScope s_highest_laid, 1000, f_highest_laid, g_highest_laid⟩ b_highest_laid (defBody s_highest_laid) = true := by decide +kernel
def b_law_s1 : S := (.ret (.call id_law_same (.cons (.call id_highest_laid (.cons (.tup (.cons (.int 1) .nil)) (.cons (.tup (.cons (.int 1) .nil)) (.cons (.bin .add (.int 29) (.callw id_law_next (.cons (.int 9) .nil))) .nil)))) (.cons .none .nil))))
def law_B0_s17 : S := (.ite (.and (.cmp .lt (.var 20) (.int 9)) (.not (.call id_law_same (.cons (.call id_highest_laid (.cons (.var 18) (.cons (.var 19) (.cons (.var 7) .nil)))) (.cons (.var 20) .nil))))) (.cons (.ret (.bl false))
  .nil) .nil)
def law_B1_s0 : S := (.asg 20 (.bin .add (.var 20) (.int 1)))
def law_B1 : Ss := (.cons law_B1_s0 .nil)
def law_B0_s16 : S := (.whl (.and (.cmp .lt (.var 20) (.int 9)) (.cmp .eq (.call id_law_crushed (.cons (.bi .tuple (.comp [9] (.nm 9) (.r1 (.bin .add (.var 20) (.int 1))) .yes (.ife (.cmp .eq (.bin .mul (.bin .fdiv (.var 9) (.int 2)) (.int 2)) (.var 9)) (.var 18) (.var 19)))) (.cons (.var 7) .nil))) (.tup .nil))) law_B1)
def law_B0_s15 : S := (.asgp [18, 19, 20] (.cons (.callw id_law_course (.cons (.var 3) .nil)) (.cons (.callw id_law_course (.cons (.var 3) .nil)) (.cons (.int 0) .nil))))
def law_B0_s14 : S := (.ite (.cmp .gt (.bi .len (.var 4)) (.int 1)) (.cons (.asg 9 (.bin .add (.int 1) (.callw id_law_next (.cons (.bin .sub (.bi .len (.var 4)) (.int 1)) .nil))))
  (.cons (.asgp [10, 17] (.cons (.callw id_law_next (.cons (.bi .len (.ix (.var 4) (.var 9))) .nil)) (.cons (.callw id_law_next (.cons (.bi .len (.ix (.var 4) (.bin .sub (.var 9) (.int 1)))) .nil)) .nil)))
  (.cons (.ite (.not (.call id_law_same (.cons (.call id_shared (.cons (.var 4) (.cons (.var 9) (.cons (.var 10) (.cons (.var 17) .nil))))) (.cons (.call id_law_part (.cons (.ix (.call id_law_ends (.cons (.ix (.var 4) (.var 9)) .nil)) (.var 10)) (.cons (.ix (.call id_law_ends (.cons (.ix (.var 4) (.bin .sub (.var 9) (.int 1))) .nil)) (.var 17)) .nil))) .nil)))) (.cons (.ret (.bl false))
  .nil) .nil)
  .nil))) .nil)
def law_B0_s13 : S := (.ite (.cmp .ne (.var 15) (.tup (.cons (.bin .mul (.var 3) (.bi .len (.var 4))) (.cons (.int 1) .nil)))) (.cons (.ret (.bl false))
  .nil) .nil)
def law_B2_s0 : S := (.asg 15 (.call id_law_plus (.cons (.var 15) (.cons (.var 16) .nil))))
def law_B2 : Ss := (.cons law_B2_s0 .nil)
def law_B0_s12 : S := (.for_ (.nm 16) (.val (.var 11)) law_B2)
def law_B0_s11 : S := (.asg 15 (.tup (.cons (.int 0) (.cons (.int 1) .nil))))
def law_B0_s10 : S := (.ite (.not (.call id_law_same (.cons (.tup (.cons (.call id_loads_of (.cons (.var 4) .nil)) (.cons (.call id_pressed (.cons (.var 4) (.cons (.var 6) .nil))) (.cons (.call id_heaviest_load (.cons (.var 4) .nil)) (.cons (.call id_foot_loads (.cons (.var 4) .nil)) (.cons (.call id_crushed (.cons (.var 4) (.cons (.var 7) .nil))) (.cons (.call id_evenly_borne (.cons (.var 4) .nil)) .nil))))))) (.cons (.var 14) .nil)))) (.cons (.ret (.bl false))
  .nil) .nil)
def law_B0_s9 : S := (.asg 14 (.tup (.cons (.var 5) (.cons (.call id_law_loads (.cons (.var 4) (.cons (.var 6) .nil))) (.cons (.var 8) (.cons (.var 11) (.cons (.call id_law_crushed (.cons (.var 4) (.cons (.var 7) .nil))) (.cons (.var 13) .nil))))))))
def law_B0_s8 : S := (.asg 13 (.cmp .eq (.comp [21] (.nm 21) (.val (.var 12)) (.cmp .ne (.comp [16] (.nm 16) (.val (.var 21)) (.cmp .ne (.var 16) (.ix (.var 21) (.int 0))) (.var 16)) (.lst .nil)) (.var 21)) (.lst .nil)))
def law_B0_s7 : S := (.asg 12 (.comp [9] (.nm 9) (.r1 (.bi .len (.var 4))) .yes (.comp [10] (.nm 10) (.r1 (.bi .len (.ix (.var 4) (.var 9)))) .yes (.call id_law_fraction (.cons (.ix (.ix (.ix (.var 5) (.var 9)) (.var 10)) (.int 0)) (.cons (.bin .mul (.ix (.ix (.ix (.var 5) (.var 9)) (.var 10)) (.int 1)) (.ix (.ix (.var 4) (.var 9)) (.var 10))) .nil))))))
def law_B0_s6 : S := (.asg 11 (.bi .tuple (.comp [10] (.nm 10) (.r1 (.bi .len (.ix (.var 4) (.int 0)))) .yes (.call id_law_plus (.cons (.ix (.ix (.var 5) (.int 0)) (.var 10)) (.cons (.tup (.cons (.ix (.ix (.var 4) (.int 0)) (.var 10)) (.cons (.int 1) .nil))) .nil))))))
def law_B4_s0 : S := (.asg 8 (.ife (.or (.cmp .is_ (.var 8) .none) (.call id_law_less (.cons (.ix (.var 8) (.int 0)) (.cons (.ix (.ix (.var 5) (.var 9)) (.var 10)) .nil)))) (.tup (.cons (.ix (.ix (.var 5) (.var 9)) (.var 10)) (.cons (.var 9) (.cons (.var 10) .nil)))) (.var 8)))
def law_B4 : Ss := (.cons law_B4_s0 .nil)
def law_B3_s0 : S := (.for_ (.nm 10) (.r1 (.bi .len (.ix (.var 4) (.var 9)))) law_B4)
def law_B3 : Ss := (.cons law_B3_s0 .nil)
def law_B0_s5 : S := (.for_ (.nm 9) (.r1 (.bi .len (.var 4))) law_B3)
def law_B0_s4 : S := (.asg 8 .none)
def law_B0_s3 : S := (.asgp [5, 6, 7] (.cons (.call id_law_loads (.cons (.var 4) (.cons (.bin .mul (.tup (.cons (.int 0) .nil)) (.bi .len (.ix (.var 4) (.neg (.int 1))))) .nil))) (.cons (.bi .tuple (.comp [22] (.nm 22) (.val (.ix (.var 4) (.neg (.int 1)))) .yes (.callw id_law_next (.cons (.int 5) .nil)))) (.cons (.callw id_law_next (.cons (.int 4) .nil)) .nil))))
def law_B0_s2 : S := (.asg 4 (.callw id_law_pick (.cons (.lst (.cons (.var 4) (.cons (.var 4) (.cons (.bin .mul (.sl (.var 4) .none (.int 1)) (.bi .len (.var 4))) .nil)))) .nil)))
def law_B0_s1 : S := (.asg 4 (.bi .tuple (.comp [9] (.nm 9) (.r1 (.bin .add (.int 1) (.callw id_law_next (.cons (.int 4) .nil)))) .yes (.callw id_law_course (.cons (.var 3) .nil)))))
def law_B0_s0 : S := (.asg 3 (.bin .add (.int 1) (.callw id_law_next (.cons (.int 8) .nil))))
def law_B0 : Ss := (.cons law_B0_s0 (.cons law_B0_s1 (.cons law_B0_s2 (.cons law_B0_s3 (.cons law_B0_s4 (.cons law_B0_s5 (.cons law_B0_s6 (.cons law_B0_s7 (.cons law_B0_s8 (.cons law_B0_s9 (.cons law_B0_s10 (.cons law_B0_s11 (.cons law_B0_s12 (.cons law_B0_s13 (.cons law_B0_s14 (.cons law_B0_s15 (.cons law_B0_s16 (.cons law_B0_s17 .nil))))))))))))))))))
def b_law_s0 : S := (.for_ (.nm 2) (.r1 (.int 3)) law_B0)
def b_law : Ss := (.cons b_law_s0 (.cons b_law_s1 .nil))
abbrev f_law : List (Nat × Str × Nat × Bool) := [(id_law_next, "_law_next", 2, true), (id_law_same, "_law_same", 2, false), (id_law_fraction, "_law_fraction", 2, false), (id_law_less, "_law_less", 2, false), (id_law_ends, "_law_ends", 1, false), (id_law_pick, "_law_pick", 2, true), (id_law_plus, "_law_plus", 2, false), (id_law_course, "_law_course", 2, true), (id_law_part, "_law_part", 2, false), (id_shared, "shared", 4, false), (id_law_loads, "_law_loads", 2, false), (id_law_crushed, "_law_crushed", 2, false), (id_pressed, "pressed", 2, false), (id_loads_of, "loads_of", 1, false), (id_heaviest_load, "heaviest_load", 1, false), (id_foot_loads, "foot_loads", 1, false), (id_crushed, "crushed", 2, false), (id_evenly_borne, "evenly_borne", 1, false), (id_highest_laid, "highest_laid", 3, false)]
abbrev g_law : List (Nat × Str) := []
theorem c_law : chkSs ⟨n_law, defScope s_law, defScope s_law, 1, f_law, g_law⟩ b_law (defBody s_law).tail = true := by decide +kernel
end PW

set_option maxHeartbeats 4000000
/-! What bears what: typed. -/
namespace PW
open PySem PyProof.Rows L2 PV
abbrev Fr2 := Int × Int
abbrev Crs := List Int
abbrev Wal := List Crs
abbrev Lds := List (List Fr2)
def cC : Cod Crs := cT cInt
def cW : Cod Wal := cT cC
def cLd : Cod Lds := cT (cT cF)
abbrev G0 : Nat → List D → Option D := fun _ _ => none
def C0 : Nat → Option D := fun _ => none
def at0 (c : Crs) (n : Nat) : Int := c.getD n 0
def atC (w : Wal) (k : Nat) : Crs := w.getD k []
def endAt (c : Crs) (n : Nat) : Int × Int := ((c.take n).sum, (c.take (n + 1)).sum)
def endsP (c : Crs) : List (Int × Int) := (List.range c.length).map (endAt c)
def mx (a b : Int) : Int := if b > a then b else a
def mn (a b : Int) : Int := if b < a then b else a
def ovl (a b : Int × Int) : Int := mx 0 (mn a.2 b.2 - mx a.1 b.1)
def partP (a b : Int × Int) : Fr2 := fr (ovl a b) (a.2 - a.1)
/-- what one brick above gives to one below -/
def term (up dn : Crs) (ld : List Fr2) (m n : Nat) : Fr2 := fmul (partP (endAt up n) (endAt dn m)) (fadd (ld.getD n (0, 1)) (at0 up n, 1))
def rowP (up dn : Crs) (ld : List Fr2) : List Fr2 := (List.range dn.length).map fun m => ftot ((List.range up.length).map (term up dn ld m))
def lodP (ex : List Int) : Wal → Lds
  | [] => []
  | [_] => [ex.map fun x => (x, 1)]
  | dn :: up :: rest => rowP up dn ((lodP ex (up :: rest)).getD 0 []) :: lodP ex (up :: rest)
def zer (w : Wal) : List Int := List.replicate (w.getLastD []).length 0
def lod0 (w : Wal) : Lds := lodP (zer w) w
def ldAt (l : Lds) (k n : Nat) : Fr2 := (l.getD k []).getD n (0, 1)
def hStep (l : Lds) (b : Option (Fr2 × Nat × Nat)) (z : Nat × Nat) : Option (Fr2 × Nat × Nat) := match b with
  | none => some (ldAt l z.1 z.2, z.1, z.2)
  | some q => if flt q.1 (ldAt l z.1 z.2) = true then some (ldAt l z.1 z.2, z.1, z.2) else some q
def posW (w : Wal) : List (Nat × Nat) := (List.range w.length).flatMap fun k => (List.range (atC w k).length).map fun n => (k, n)
def hvD : Option (Fr2 × Nat × Nat) → D
  | none => .none
  | some z => .tuple [cF.enc z.1, .int z.2.1, .int z.2.2]
def hvP (w : Wal) : Option (Fr2 × Nat × Nat) := (posW w).foldl (hStep (lod0 w)) none
def ftP (w : Wal) : List Fr2 := (List.range (atC w 0).length).map fun n => fadd (ldAt (lod0 w) 0 n) (at0 (atC w 0) n, 1)
def crB (w : Wal) (s : Int) (z : Nat × Nat) : Bool := flt (s * at0 (atC w z.1) z.2, 1) (ldAt (lod0 w) z.1 z.2)
def crP (w : Wal) (s : Int) : List (Nat × Nat) := (posW w).filter (crB w s)
def cPr : Cod (Nat × Nat) := c2 cNat cNat
def rtP (w : Wal) (k : Nat) : List Fr2 := (List.range (atC w k).length).map fun n => fdv (ldAt (lod0 w) k n) (at0 (atC w k) n, 1)
def evB (w : Wal) (k : Nat) : Bool := (rtP w k).all fun r => decide (r = (rtP w k).getD 0 (0, 1))
def evP (w : Wal) : Bool := (List.range w.length).all (evB w)
def altW (a b : Crs) (h : Nat) : Wal := (List.range h).map fun k => if k % 2 = 0 then a else b
def hiP (a b : Crs) (s : Int) : Option Nat := (List.range 30).find? fun h => !(crP (altW a b (h + 1)) s).isEmpty
def hiD : Option Nat → D
  | none => .none
  | some h => .int h
/-! conditions -/
structure Dn (p : Fr2) (N : Int) : Prop where
  red : Red p
  dvd : p.2 ∣ N
def LC (c : Crs) : Int := if c.all (fun l => decide (l = 1)) = true then 1 else 12
def prodL : Wal → Int
  | [] => 1
  | c :: w => LC c * prodL w
structure CrOk (wide : Int) (c : Crs) : Prop where
  sum : c.sum = wide
  it : ∀ l ∈ c, 1 ≤ l ∧ l ≤ 4
structure WOk (wide : Int) (w : Wal) : Prop where
  wd : 1 ≤ wide ∧ wide ≤ 8
  len : 1 ≤ w.length ∧ w.length ≤ 30
  it : ∀ c ∈ w, CrOk wide c
  lt : prodL w < 70368744177664
open Classical in
noncomputable def okW (w : Wal) : Bool := decide (∃ wide, WOk wide w)
def okX (w : Wal) (ex : List Int) : Bool := decide (ex.length = (w.getLastD []).length) && ex.all fun x => decide (0 ≤ x ∧ x ≤ 4)
open Classical in
noncomputable def okHi (a b : Crs) (s : Int) : Bool := decide (0 ≤ s ∧ s ≤ 100 ∧ ((hiP a b s = none ∧ ∀ h, h < 30 → okW (altW a b (h + 1)) = true) ∨ ∃ j, hiP a b s = some j ∧ ∀ h, h ≤ j → okW (altW a b (h + 1)) = true))
def S_ends := spec (A1 cC) (fun c => decide (c.length ≤ 10)) fun c => (cT cF).enc (endsP c)
def S_lends := spec (A1 cC) (fun c => decide (c.length ≤ 10)) fun c => (cL cF).enc (endsP c)
def S_part := spec (A2 cF cF) (fun z => decide (0 < z.1.2 - z.1.1 ∧ z.1.2 - z.1.1 ≤ 4)) fun z => cF.enc (partP z.1 z.2)
noncomputable def S_shared := spec (A4 cW cNat cNat cNat) (fun z => okW z.1 && decide (0 < z.2.1 ∧ z.2.1 < z.1.length ∧ z.2.2.1 < (atC z.1 z.2.1).length ∧ z.2.2.2 < (atC z.1 (z.2.1 - 1)).length)) fun z => cF.enc (partP (endAt (atC z.1 z.2.1) z.2.2.1) (endAt (atC z.1 (z.2.1 - 1)) z.2.2.2))
noncomputable def S_press := spec (A2 cW cC) (fun z => okW z.1 && okX z.1 z.2) fun z => cLd.enc (lodP z.2 z.1)
noncomputable def S_loads := spec (A1 cW) okW fun w => cLd.enc (lod0 w)
noncomputable def S_heavy := spec (A1 cW) okW fun w => hvD (hvP w)
noncomputable def S_foot := spec (A1 cW) okW fun w => (cT cF).enc (ftP w)
noncomputable def S_crush := spec (A2 cW cInt) (fun z => okW z.1 && decide (0 ≤ z.2 ∧ z.2 ≤ 100)) fun z => (cT cPr).enc (crP z.1 z.2)
noncomputable def S_even := spec (A1 cW) okW fun w => .bool (evP w)
noncomputable def S_high := spec (A3 cC cC cInt) (fun z => okHi z.1 z.2.1 z.2.2) fun z => hiD (hiP z.1 z.2.1 z.2.2)
def S_bylen := spec (A2 cF cInt) (fun z => okDv z.1 (z.2, 1)) fun z => cF.enc (fdv z.1 (z.2, 1))
noncomputable def SS : Nat → List D → Option D
  | 0 => S_comG
  | 1 => S_lt
  | 2 => S_ends
  | 5 => S_same
  | 6 => S_frG
  | 7 => S_lt
  | 8 => S_lends
  | 9 => S_frG
  | 11 => S_add
  | 12 => S_mul
  | 14 => S_part
  | 15 => S_add
  | 16 => S_mul
  | 17 => S_dv
  | 18 => S_shared
  | 19 => S_press
  | 20 => S_tot
  | 21 => S_bylen
  | 22 => S_crush
  | 23 => S_press
  | 24 => S_loads
  | 25 => S_heavy
  | 26 => S_foot
  | 27 => S_crush
  | 28 => S_even
  | 29 => S_high
  | _ => fun _ => none
theorem e_C (c : Crs) : cC.enc c = .tuple (c.map cInt.enc) := rfl
theorem e_W (w : Wal) : cW.enc w = .tuple (w.map cC.enc) := rfl
theorem e_Ld (l : Lds) : cLd.enc l = .tuple (l.map (cT cF).enc) := rfl
end PW

set_option maxHeartbeats 4000000
/-! What bears what: fractions, one value held beside another. -/
namespace PW
open PySem PyProof.Rows L2 PV
theorem r_common : ∀ ds d, SS id_common ds = some d → run optM C0 SS G0 n_common.length b_common ds = some d := by
  intro ds d h
  obtain ⟨⟨a, b⟩, h1, hp, rfl⟩ := spec_some (show S_comG ds = some d from h)
  obtain rfl := A2_some h1
  simp only [decide_eq_true_eq] at hp
  refine run_of ?_
  have key := whO_go (step := wBody C0 SS G0 (.cmp .ne (.var 1) (.int 0)) common_B0 [.sh (.int a), .sh (.int b)]) (fun s : Int × Int => [.sh (.int s.1), .sh (.int s.2)]) (fun s => s.2.natAbs) (fun s => (s.2, s.1.fmod s.2)) (fun s => !decide (s.2 = 0)) (fun s => 0 ≤ s.2 ∧ Int.gcd s.1 s.2 = Int.gcd a b) (fun s hI => ?_) _ (a, b) (Nat.le_refl _) ⟨by omega, rfl⟩
  · obtain ⟨s, k1, k2, k3⟩ := key
    have h0 : s.2 = 0 := by simpa using k3
    have hg := k2.2
    rw [h0, Int.gcd_zero_right] at hg
    unfold b_common
    simp [esc, escs, k1, ← hg]
    split <;> omega
  · by_cases h0 : s.2 = 0
    · exact ⟨fun z => by simp [h0] at z, fun _ => wBody_end (by simp [h0])⟩
    · have hpos : 0 < s.2 := by omega
      have f1 := Int.fmod_nonneg_of_pos s.1 hpos
      have f2 := Int.fmod_lt_of_pos s.1 hpos
      refine ⟨fun _ => ⟨?_, ⟨f1, (gcd_fmod s.1 s.2).trans hI.2⟩, ?_⟩, fun z => by simp [h0] at z⟩
      · rw [wBody_go (ρ' := [.sh (.int s.2), .sh (.int (s.1.fmod s.2))]) (by simp [h0]) (by simp [common_B0, esc, escs, setAll, h0])]
        simp [esc]
      · simp only
        omega
theorem SS_common {a b : Int} (h : 0 < b ∧ b < 2 ^ 190) : SS id_common [.int a, .int b] = some (.int (Int.gcd a b)) := by
  show S_comG _ = _
  unfold S_comG
  exact spec_of (A2_enc cInt cInt a b) (decide_eq_true h)
theorem gcd_big {a b : Int} (h : 0 < b ∧ b < 2 ^ 190) : Int.gcd a b ≠ 0 ∧ Int.gcd a b < 1606938044258990275541962092341162602522202993782792835301376 := by
  have g0 := gcd_pos (a := a) h.1
  have g1 := gcd_le (a := a) h.1
  have h3 : (2 : Int) ^ 190 < 1606938044258990275541962092341162602522202993782792835301376 := by decide
  have h2 := Int.lt_trans h.2 h3
  omega
theorem r_fraction : ∀ ds d, SS id_fraction ds = some d → run optM C0 SS G0 n_fraction.length b_fraction ds = some d := by
  intro ds d h
  obtain ⟨⟨a, b⟩, h1, hp, rfl⟩ := spec_some (show S_frG ds = some d from h)
  obtain rfl := A2_some h1
  simp only [okG, decide_eq_true_eq] at hp
  refine run_of ?_
  have e := SS_common (a := a) (b := b) hp
  have n0 : ¬ b < 0 := by omega
  obtain ⟨g2, g3⟩ := gcd_big (a := a) (b := b) hp
  unfold b_fraction
  simp [esc, escs, e, n0, g2, g3, fr, e_F]
theorem SS_fraction {a b : Int} (h : okG a b = true) : SS id_fraction [.int a, .int b] = some (cF.enc (fr a b)) := by
  show S_frG _ = _
  unfold S_frG
  exact spec_of (A2_enc cInt cInt a b) h
theorem r_law_fraction : ∀ ds d, SS id_law_fraction ds = some d → run optM C0 SS G0 n_law_fraction.length b_law_fraction ds = some d := by
  intro ds d h
  obtain ⟨⟨a, b⟩, h1, hp, rfl⟩ := spec_some (show S_frG ds = some d from h)
  obtain rfl := A2_some h1
  simp only [okG, decide_eq_true_eq] at hp
  refine run_of ?_
  have key := whO_go (step := wBody C0 SS G0 (.cmp .gt (.var 3) (.int 0)) law_fraction_B0 [.sh (.int a), .sh (.int b), .sh (.int (a.natAbs : Int)), .sh (.int b)]) (fun s : Int × Int => [.sh (.int a), .sh (.int b), .sh (.int s.1), .sh (.int s.2)]) (fun s => s.2.natAbs) (fun s => (s.2, s.1.fmod s.2)) (fun s => decide (0 < s.2)) (fun s => 0 ≤ s.1 ∧ 0 ≤ s.2 ∧ Int.gcd s.1 s.2 = Int.gcd a b) (fun s hI => ?_) _ ((a.natAbs : Int), b) (Nat.le_refl _) ⟨by omega, by omega, by simp [Int.gcd]⟩
  · obtain ⟨s, k1, k2, k3⟩ := key
    have h0 : s.2 = 0 := by simp at k3; omega
    have hg := k2.2.2
    rw [h0, Int.gcd_zero_right] at hg
    have hs : s.1 = (Int.gcd a b : Int) := by omega
    obtain ⟨g2, g3⟩ := gcd_big (a := a) (b := b) hp
    have ea : (if a < 0 then -a else a) = (a.natAbs : Int) := by split <;> omega
    have eb : ¬ b < 0 := by omega
    rw [hs, h0] at k1
    unfold b_law_fraction
    simp [esc, escs, setAll, ea, eb, k1, hp.1, g2, g3, fr, e_F]
  · by_cases h0 : 0 < s.2
    · have h1 : ¬ s.2 = 0 := by omega
      have f1 := Int.fmod_nonneg_of_pos s.1 h0
      have f2 := Int.fmod_lt_of_pos s.1 h0
      refine ⟨fun _ => ⟨?_, ⟨hI.2.1, f1, (gcd_fmod s.1 s.2).trans hI.2.2⟩, ?_⟩, fun z => by simp [h0] at z⟩
      · rw [wBody_go (ρ' := [.sh (.int a), .sh (.int b), .sh (.int s.2), .sh (.int (s.1.fmod s.2))]) (by simp [h0]) (by simp [law_fraction_B0, esc, escs, setAll, h1])]
        simp [esc]
      · simp only
        omega
    · exact ⟨fun z => by simp [h0] at z, fun _ => wBody_end (by simp [h0])⟩
theorem SS_law_fraction {a b : Int} (h : okG a b = true) : SS id_law_fraction [.int a, .int b] = some (cF.enc (fr a b)) := by
  show S_frG _ = _
  unfold S_frG
  exact spec_of (A2_enc cInt cInt a b) h
theorem okS_it {p q : Int × Int} (h : okS p q = true) : PV.small64 p.2 = true ∧ PV.small64 q.2 = true := by
  unfold okS at h
  simpa using h
theorem r_plus : ∀ ds d, SS id_plus ds = some d → run optM C0 SS G0 n_plus.length b_plus ds = some d := by
  intro ds d h
  obtain ⟨⟨p, q⟩, h1, hp, rfl⟩ := spec_some (show S_add ds = some d from h)
  obtain rfl := A2_some h1
  have hp : okAdd p q = true := hp
  unfold okAdd at hp
  simp only [Bool.and_eq_true] at hp
  obtain ⟨s1, s2⟩ := okS_it hp.1
  have e := SS_fraction (a := p.1 * q.2 + q.1 * p.2) (b := p.2 * q.2) hp.2
  skip
  refine run_of ?_
  unfold b_plus fadd
  simp [esc, escs, e_F, s1, s2, e]
theorem SS_plus {p q : Fr2} (h : okAdd p q = true) : SS id_plus [cF.enc p, cF.enc q] = some (cF.enc (fadd p q)) := by
  show S_add _ = _
  unfold S_add
  exact spec_of (A2_enc cF cF p q) h
theorem r_law_plus : ∀ ds d, SS id_law_plus ds = some d → run optM C0 SS G0 n_law_plus.length b_law_plus ds = some d := by
  intro ds d h
  obtain ⟨⟨p, q⟩, h1, hp, rfl⟩ := spec_some (show S_add ds = some d from h)
  obtain rfl := A2_some h1
  have hp : okAdd p q = true := hp
  unfold okAdd at hp
  simp only [Bool.and_eq_true] at hp
  obtain ⟨s1, s2⟩ := okS_it hp.1
  have e := SS_law_fraction (a := p.1 * q.2 + q.1 * p.2) (b := p.2 * q.2) hp.2
  skip
  refine run_of ?_
  unfold b_law_plus fadd
  simp [esc, escs, e_F, s1, s2, e]
theorem SS_law_plus {p q : Fr2} (h : okAdd p q = true) : SS id_law_plus [cF.enc p, cF.enc q] = some (cF.enc (fadd p q)) := by
  show S_add _ = _
  unfold S_add
  exact spec_of (A2_enc cF cF p q) h
theorem r_times : ∀ ds d, SS id_times ds = some d → run optM C0 SS G0 n_times.length b_times ds = some d := by
  intro ds d h
  obtain ⟨⟨p, q⟩, h1, hp, rfl⟩ := spec_some (show S_mul ds = some d from h)
  obtain rfl := A2_some h1
  have hp : okMul p q = true := hp
  unfold okMul at hp
  simp only [Bool.and_eq_true] at hp
  obtain ⟨s1, s2⟩ := okS_it hp.1
  have e := SS_fraction (a := p.1 * q.1) (b := p.2 * q.2) hp.2.2
  have m1 := hp.2.1
  refine run_of ?_
  unfold b_times fmul
  simp [esc, escs, e_F, s1, s2, e, m1]
theorem SS_times {p q : Fr2} (h : okMul p q = true) : SS id_times [cF.enc p, cF.enc q] = some (cF.enc (fmul p q)) := by
  show S_mul _ = _
  unfold S_mul
  exact spec_of (A2_enc cF cF p q) h
theorem r_law_times : ∀ ds d, SS id_law_times ds = some d → run optM C0 SS G0 n_law_times.length b_law_times ds = some d := by
  intro ds d h
  obtain ⟨⟨p, q⟩, h1, hp, rfl⟩ := spec_some (show S_mul ds = some d from h)
  obtain rfl := A2_some h1
  have hp : okMul p q = true := hp
  unfold okMul at hp
  simp only [Bool.and_eq_true] at hp
  obtain ⟨s1, s2⟩ := okS_it hp.1
  have e := SS_law_fraction (a := p.1 * q.1) (b := p.2 * q.2) hp.2.2
  have m1 := hp.2.1
  refine run_of ?_
  unfold b_law_times fmul
  simp [esc, escs, e_F, s1, s2, e, m1]
theorem SS_law_times {p q : Fr2} (h : okMul p q = true) : SS id_law_times [cF.enc p, cF.enc q] = some (cF.enc (fmul p q)) := by
  show S_mul _ = _
  unfold S_mul
  exact spec_of (A2_enc cF cF p q) h
theorem r_parted : ∀ ds d, SS id_parted ds = some d → run optM C0 SS G0 n_parted.length b_parted ds = some d := by
  intro ds d h
  obtain ⟨⟨p, q⟩, h1, hp, rfl⟩ := spec_some (show S_dv ds = some d from h)
  obtain rfl := A2_some h1
  have hp : okDv p q = true := hp
  unfold okDv at hp
  simp only [Bool.and_eq_true] at hp
  obtain ⟨s1, s2⟩ := okS_it hp.1
  have e := SS_fraction (a := p.1 * q.2) (b := p.2 * q.1) hp.2
  skip
  refine run_of ?_
  unfold b_parted fdv
  simp [esc, escs, e_F, s1, s2, e]
theorem SS_parted {p q : Fr2} (h : okDv p q = true) : SS id_parted [cF.enc p, cF.enc q] = some (cF.enc (fdv p q)) := by
  show S_dv _ = _
  unfold S_dv
  exact spec_of (A2_enc cF cF p q) h
theorem r_is_less : ∀ ds d, SS id_is_less ds = some d → run optM C0 SS G0 n_is_less.length b_is_less ds = some d := by
  intro ds d h
  obtain ⟨⟨p, q⟩, h1, hp, rfl⟩ := spec_some (show S_lt ds = some d from h)
  obtain rfl := A2_some h1
  obtain ⟨s1, s2⟩ := okS_it hp
  refine run_of ?_
  unfold b_is_less flt
  simp [esc, escs, e_F, s1, s2]
theorem SS_is_less {p q : Fr2} (h : okS p q = true) : SS id_is_less [cF.enc p, cF.enc q] = some (.bool (flt p q)) := by
  show S_lt _ = _
  unfold S_lt
  exact spec_of (A2_enc cF cF p q) h
theorem r_law_less : ∀ ds d, SS id_law_less ds = some d → run optM C0 SS G0 n_law_less.length b_law_less ds = some d := by
  intro ds d h
  obtain ⟨⟨p, q⟩, h1, hp, rfl⟩ := spec_some (show S_lt ds = some d from h)
  obtain rfl := A2_some h1
  obtain ⟨s1, s2⟩ := okS_it hp
  refine run_of ?_
  unfold b_law_less flt
  simp [esc, escs, e_F, s1, s2]
theorem SS_law_less {p q : Fr2} (h : okS p q = true) : SS id_law_less [cF.enc p, cF.enc q] = some (.bool (flt p q)) := by
  show S_lt _ = _
  unfold S_lt
  exact spec_of (A2_enc cF cF p q) h
theorem r_total : ∀ ds d, SS id_total ds = some d → run optM C0 SS G0 n_total.length b_total ds = some d := by
  intro ds d h
  obtain ⟨xs, h1, hp, rfl⟩ := spec_some (show S_tot ds = some d from h)
  obtain rfl := A1_some h1
  refine run_of ?_
  have key := forL_fold (g := fBody C0 SS G0 (.nm 2) total_B0) (ρ0 := [.sh ((cL cF).enc xs), .sh (cF.enc (0, 1)), .no]) cF.enc
    (fun s : Fr2 => [.sh ((cL cF).enc xs), .sh (cF.enc s), .no]) fadd (fun s ys => okTot s ys = true) ?_ xs (0, 1) hp
  · have it : items ((cL cF).enc xs) = some (xs.map cF.enc) := rfl
    have e0 : cF.enc (0, 1) = .tuple [.int 0, .int 1] := rfl
    unfold ftot
    generalize (cL cF).enc xs = y at key it ⊢
    rw [e0] at key
    unfold b_total
    simp [esc, escs, escF, it, key]
  · intro s x ys hs
    unfold okTot at hs
    rw [Bool.and_eq_true] at hs
    have e := SS_plus hs.1
    generalize (cL cF).enc xs = y
    have sl : ∀ e : E, slotOf e (cF.enc (fadd s x)) = .sh (cF.enc (fadd s x)) := fun e => slot_tup
    refine ⟨⟨[.sh y, .sh (cF.enc (fadd s x)), .sh (cF.enc x)], ?_, by simp⟩, hs.2⟩
    simp [fBody, total_B0, esc, escs, e, sl]
theorem SS_total {xs : List Fr2} (h : okTot (0, 1) xs = true) : SS id_total [.list (xs.map cF.enc)] = some (cF.enc (ftot xs)) := by
  show S_tot _ = _
  unfold S_tot
  exact spec_of (A1_enc (cL cF) xs) h
theorem ne_scal : ∀ x : D, kidsOf x = [] → (∀ kv, x ≠ .dict kv) → (∀ xs, x ≠ .list xs) → (∀ xs, x ≠ .tuple xs) → dCmp .ne x x = some false
  | .none, _, _, _, _ => rfl
  | .bool b, _, _, _, _ => by cases b <;> rfl
  | .int i, _, _, _, _ => by simp
  | .str s, _, _, _, _ => by
    show (if (sh (.str s) && sh (.str s)) = true then some (!PyData.eqv (.str s) (.str s)) else none) = _
    rw [if_pos (by rfl)]
    simp [PyData.eqv]
  | .list xs, _, _, h, _ => absurd rfl (h xs)
  | .tuple xs, _, _, _, h => absurd rfl (h xs)
  | .dict xs, _, h, _, _ => absurd rfl (h xs)
theorem same_turn (a : D) (ys : List D) (x : D) (hx : shal 10 x = true) (hn : pszs ys + psz x ≤ 1000000) : exs optM C0 SS G0 law_same_B0 [.sh a, .sh a, .ow (.list (ys.map twin ++ [twin x])), .no, .no, .no, .no, .no] = some (.nx [.sh a, .sh a, .ow (.list ((ys ++ kidsOf x).map twin)), .sh x, .sh x, .no, .no, .no]) := by
  have kids : ∀ (cs : List D) (e : D), (∀ i (hi : i < cs.length), dIx e (.int (i : Int)) = some cs[i]) → ∀ s0 s1 s2 : Slot, compL optM (oStep C0 SS G0 (.nm 7) .yes (.tup (.cons (.ix (.var 3) (.var 7)) (.cons (.ix (.var 4) (.var 7)) .nil))) [s0, s1, s2, .sh e, .sh e, .no, .no, .no]) (rng 0 (cs.length : Int)) = some (cs.map twin) := fun cs e he s0 s1 s2 => by
    rw [rng_map, show ((cs.length : Int) - 0).toNat = cs.length by omega, compL_all (f := fun i => twin (cs.getD i .none)) fun i hi => by
      have hi := List.mem_range.mp hi
      simp [oStep, he i hi, twin, hi]]
    refine congrArg some (range_get cs _ twin fun i hi => by simp [hi])
  have l1 := pszs_len ys
  have l2 : (kidsOf x).length ≤ psz x := by
    have := pszs_len (kidsOf x)
    have := kids_sz x
    omega
  have l3 : ys.length + (kidsOf x).length ≤ LINE := by unfold LINE; omega
  unfold law_same_B0
  cases x with
  | none => simp [twin, esc, dIs, kidsOf, ne_scal .none rfl (by simp) (by simp) (by simp)]
  | bool b => simp [twin, esc, dIs, kidsOf, ne_scal (.bool b) rfl (by simp) (by simp) (by simp)]
  | int b => simp [twin, esc, dIs, kidsOf, ne_scal (.int b) rfl (by simp) (by simp) (by simp)]
  | str b => simp [twin, esc, dIs, kidsOf, ne_scal (.str b) rfl (by simp) (by simp) (by simp)]
  | dict kv => simp [shal] at hx
  | list cs =>
    have kk := kids cs (.list cs) fun i hi => by simp [atI_get hi]
    have ok : okR 0 (cs.length : Int) = true := by unfold okR LINE; simp [kidsOf] at l3; unfold LINE at l3; exact decide_eq_true (by omega)
    simp [kidsOf] at l3
    simp [twin, esc, escs, escS, dIs, kidsOf, ok, kk, dExt, l3]
  | tuple cs =>
    have kk := kids cs (.tuple cs) fun i hi => by simp [atI_get hi]
    have ok : okR 0 (cs.length : Int) = true := by unfold okR LINE; simp [kidsOf] at l3; unfold LINE at l3; exact decide_eq_true (by omega)
    simp [kidsOf] at l3
    simp [twin, esc, escs, escS, dIs, kidsOf, ok, kk, dExt, l3]
theorem r_law_same : ∀ ds d, SS id_law_same ds = some d → run optM C0 SS G0 n_law_same.length b_law_same ds = some d := by
  intro ds d h
  obtain ⟨a, rfl, hok, rfl⟩ := S_same_some (show S_same ds = some d from h)
  simp only [okSame, Bool.and_eq_true, decide_eq_true_eq] at hok
  refine run_of ?_
  have key := whO_go (step := wBody C0 SS G0 (.cmp .ne (.var 2) (.lst .nil)) law_same_B0 [.sh a, .sh a, .ow (.list [twin a]), .no, .no, .no, .no, .no]) (fun s : List D => [.sh a, .sh a, .ow (.list (s.map twin)), .no, .no, .no, .no, .no]) pszs sameN (fun s => !s.isEmpty) (fun s => s.all (shal 10) = true ∧ pszs s ≤ 1000000) (fun s hI => ?_) _ [a] (Nat.le_refl _) ⟨by simp [hok.1], by simp [pszs]; exact hok.2⟩
  · obtain ⟨s, k1, _, k3⟩ := key
    have : s = [] := by simpa using k3
    subst this
    unfold b_law_same
    simp [esc, escs, twin] at k1 ⊢
    simp [k1]
  · have nn := ne_nil hI.1
    rcases nil_or_app s with rfl | ⟨ys, x, rfl⟩
    · simp at nn
      exact ⟨fun z => by simp at z, fun _ => wBody_end (by simp [nn])⟩
    · have h1 := hI.1
      have h2 := hI.2
      rw [List.all_append, Bool.and_eq_true] at h1
      rw [pszs_app] at h2
      simp only [List.all_cons, List.all_nil, Bool.and_true, pszs, Nat.add_zero] at h1 h2
      have hk := kids_sz x
      refine ⟨fun _ => ⟨?_, ⟨?_, ?_⟩, ?_⟩, fun z => by simp at z⟩
      · have st := same_turn a ys x h1.2 h2
        rw [wBody_go (ρ' := [.sh a, .sh a, .ow (.list ((ys ++ kidsOf x).map twin)), .sh x, .sh x, .no, .no, .no]) (by simp at nn; simp [nn]) (by simpa using st), sameN_app]
        simp [esc, escs]
      · rw [sameN_app, List.all_append, h1.1, kids_sh h1.2]
        rfl
      · rw [sameN_app, pszs_app]
        omega
      · rw [sameN_app, pszs_app, pszs_app]
        simp only [pszs]
        omega
theorem SS_law_same {d : D} (h : okSame d = true) : SS id_law_same [d, d] = some (.bool true) := S_same_of h
end PW

set_option maxHeartbeats 4000000
/-! What bears what: fractions over one part below; ends of bricks. -/
namespace PW
open PySem PyProof.Rows L2 PV
/-! fractions over one part below -/
section
variable {p q : Fr2} {x y N M w : Int}
theorem FR.toDn (h : FR p x N) (r : Red p) : Dn p N := ⟨r, h.dvd r⟩
theorem Dn.pos (h : Dn p N) : 0 < p.2 := h.red.pos
theorem Dn.le (h : Dn p N) (hN : 0 < N) : p.2 ≤ N := Int.le_of_dvd hN h.dvd
theorem Dn.mono (h : Dn p N) (d : N ∣ M) : Dn p M := ⟨h.red, Int.dvd_trans h.dvd d⟩
theorem dn_int (a : Int) : Dn (a, 1) N := ⟨red_one a, Int.one_dvd _⟩
theorem dn_fr {a b : Int} (hb : 0 < b) : Dn (fr a b) b := FR.toDn (fr_rep hb) (fr_red hb)
theorem Dn.rep (h : Dn p N) (hN : 0 < N) : ∃ x, FR p x N := by
  obtain ⟨u, hu⟩ := h.dvd
  exact ⟨p.1 * u, h.pos, hN, by rw [hu]; ac_rfl⟩
theorem FR.add' (h : FR p x N) (h' : FR q y N) : FR (fadd p q) (x + y) N := by
  have := h.add h'
  rw [← Int.add_mul] at this
  exact FR.scale this h.pos2
theorem FR.sub' (h : FR p x N) (h' : FR q y N) : FR (fsub p q) (x - y) N := by
  have := h.sub h'
  rw [← Int.sub_mul] at this
  exact FR.scale this h.pos2
theorem FR.mulI (h : FR p x N) : FR (fmul p (w, 1)) (x * w) N := by
  have := h.mul (FR.one w)
  rw [Int.mul_one N] at this
  exact this
theorem FR.dvI (h : FR p x N) (hw : 0 < w) : FR (fdv p (w, 1)) x (N * w) := by
  have := h.div (FR.one w) hw
  rw [Int.mul_one x] at this
  exact this
theorem red_add (hp : Dn p N) (hq : Dn q M) : Red (fadd p q) := fr_red (Int.mul_pos hp.pos hq.pos)
theorem red_sub (hp : Dn p N) (hq : Dn q M) : Red (fsub p q) := fr_red (Int.mul_pos hp.pos hq.pos)
theorem red_mul (hp : Dn p N) (hq : Dn q M) : Red (fmul p q) := fr_red (Int.mul_pos hp.pos hq.pos)
theorem red_dvI (hp : Dn p N) (hw : 0 < w) : Red (fdv p (w, 1)) := fr_red (Int.mul_pos hp.pos hw)
theorem dn_add (hp : Dn p N) (hq : Dn q N) (hN : 0 < N) : Dn (fadd p q) N := by
  obtain ⟨x, hx⟩ := hp.rep hN
  obtain ⟨y, hy⟩ := hq.rep hN
  exact FR.toDn (FR.add' hx hy) (red_add hp hq)
theorem dn_sub (hp : Dn p N) (hq : Dn q N) (hN : 0 < N) : Dn (fsub p q) N := by
  obtain ⟨x, hx⟩ := hp.rep hN
  obtain ⟨y, hy⟩ := hq.rep hN
  exact FR.toDn (FR.sub' hx hy) (red_sub hp hq)
theorem dn_mulI (hp : Dn p N) (hN : 0 < N) : Dn (fmul p (w, 1)) N := by
  obtain ⟨x, hx⟩ := hp.rep hN
  exact FR.toDn (FR.mulI hx) (red_mul hp (dn_int (N := 1) w))
theorem dn_dvI (hp : Dn p N) (hN : 0 < N) (hw : 0 < w) : Dn (fdv p (w, 1)) (N * w) := by
  obtain ⟨x, hx⟩ := hp.rep hN
  exact FR.toDn (FR.dvI hx hw) (red_dvI hp hw)
theorem dn_mulF {a b : Int} (hp : Dn p N) (hN : 0 < N) (hb : 0 < b) : Dn (fmul p (fr a b)) (N * b) := by
  obtain ⟨x, hx⟩ := hp.rep hN
  exact FR.toDn (hx.mul (fr_rep hb)) (red_mul hp (dn_fr hb))
/-! what the model needs -/
def BIG : Int := 1152921504606846976
theorem sm_big {a : Int} (h : 0 < a ∧ a ≤ BIG) : PV.small64 a = true := by
  unfold PV.small64 BIG at *
  exact decide_eq_true (by omega)
theorem Dn.sm (h : Dn p N) (hN : 0 < N) (hb : N ≤ BIG) : PV.small64 p.2 = true := sm_big ⟨h.pos, Int.le_trans (h.le hN) hb⟩
theorem prod_big {a b : Int} (ha : 0 < a ∧ a ≤ BIG) (hb : 0 < b ∧ b ≤ BIG) : 0 < a * b ∧ a * b < 2 ^ 190 := by
  refine ⟨Int.mul_pos ha.1 hb.1, ?_⟩
  have h1 : a * b ≤ BIG * b := Int.mul_le_mul_of_nonneg_right ha.2 (by omega)
  have h2 : BIG * b ≤ BIG * BIG := Int.mul_le_mul_of_nonneg_left hb.2 (by decide)
  have h3 : BIG * BIG < 2 ^ 190 := by decide
  exact Int.lt_of_le_of_lt (Int.le_trans h1 h2) h3
theorem Dn.bd (h : Dn p N) (hN : 0 < N) (hb : N ≤ BIG) : 0 < p.2 ∧ p.2 ≤ BIG := ⟨h.pos, Int.le_trans (h.le hN) hb⟩
theorem ok_lt (hp : Dn p N) (hq : Dn q M) (hN : 0 < N) (hM : 0 < M) (bN : N ≤ BIG) (bM : M ≤ BIG) : okS p q = true := by
  unfold okS
  rw [hp.sm hN bN, hq.sm hM bM]
  rfl
theorem ok_add (hp : Dn p N) (hq : Dn q M) (hN : 0 < N) (hM : 0 < M) (bN : N ≤ BIG) (bM : M ≤ BIG) : okAdd p q = true := by
  unfold okAdd
  rw [ok_lt hp hq hN hM bN bM, okG_of (prod_big (hp.bd hN bN) (hq.bd hM bM))]
  rfl
theorem ok_sub (hp : Dn p N) (hq : Dn q M) (hN : 0 < N) (hM : 0 < M) (bN : N ≤ BIG) (bM : M ≤ BIG) : okSub p q = true := by
  unfold okSub
  rw [ok_lt hp hq hN hM bN bM, okG_of (prod_big (hp.bd hN bN) (hq.bd hM bM))]
  rfl
theorem ok_mul (hp : Dn p N) (hq : Dn q M) (hN : 0 < N) (hM : 0 < M) (bN : N ≤ BIG) (bM : M ≤ BIG) (hs : PV.small64 q.1 = true) : okMul p q = true := by
  unfold okMul
  rw [ok_lt hp hq hN hM bN bM, okG_of (prod_big (hp.bd hN bN) (hq.bd hM bM)), hs]
  simp
theorem ok_dv (hp : Dn p N) (hN : 0 < N) (bN : N ≤ BIG) (hw : 0 < w ∧ w ≤ 1000) : okDv p (w, 1) = true := by
  unfold okDv
  rw [ok_lt hp (dn_int (N := 1) w) hN (by decide) bN (by decide), okG_of (prod_big (hp.bd hN bN) (b := w) ⟨hw.1, by unfold BIG; omega⟩)]
  rfl
end
section
variable {M : Int}
theorem tot_ok (hM : 0 < M) (bM : M ≤ BIG) : ∀ (xs : List Fr2) (s : Fr2), Dn s M → (∀ x ∈ xs, Dn x M) → okTot s xs = true ∧ Dn (xs.foldl fadd s) M
  | [], s, hs, _ => ⟨rfl, hs⟩
  | x :: xs, s, hs, hx => by
    have h1 := hx x (by simp)
    obtain ⟨h2, h3⟩ := tot_ok hM bM xs (fadd s x) (dn_add hs h1 hM) fun y hy => hx y (by simp [hy])
    refine ⟨?_, h3⟩
    unfold okTot
    rw [ok_add hs h1 hM hM bM bM, h2]
    rfl
end
/-- the number above, over N -/
def nu (N : Int) (p : Fr2) : Int := p.1 * (N / p.2)
section
variable {p q : Fr2} {x y N M : Int}
theorem nu_rep (h : Dn p N) (hN : 0 < N) : FR p (nu N p) N := ⟨h.pos, hN, by
  unfold nu
  rw [Int.mul_assoc, Int.ediv_mul_cancel h.dvd]⟩
theorem FR.inj (h : FR p x N) (h' : FR p y N) : x = y := Int.eq_of_mul_eq_mul_right (Int.ne_of_gt h.pos) (by rw [← h.eq, ← h'.eq])
theorem nu_of (h : Dn p N) (h' : FR p x N) : nu N p = x := FR.inj (nu_rep h h'.pos2) h'
theorem nu_add (h : Dn p N) (h' : Dn q N) (hN : 0 < N) : nu N (fadd p q) = nu N p + nu N q := nu_of (dn_add h h' hN) (FR.add' (nu_rep h hN) (nu_rep h' hN))
end

@[simp] theorem mx_is {a b : Int} : dMx (.int a) (.int b) = some (.int (mx a b)) := rfl
@[simp] theorem mn_is {a b : Int} : dMn (.int a) (.int b) = some (.int (mn a b)) := rfl
theorem take_succ_sum (c : Crs) (n : Nat) (hn : n < c.length) : (c.take (n + 1)).sum = (c.take n).sum + at0 c n := by
  have e : at0 c n = c[n] := by simp [at0, hn]
  rw [List.take_add_one, List.getElem?_eq_getElem hn, List.sum_append, e]
  simp
theorem r_ends_of : ∀ ds d, SS id_ends_of ds = some d → run optM C0 SS G0 n_ends_of.length b_ends_of ds = some d := by
  intro ds d h
  obtain ⟨c, h1, hp, rfl⟩ := spec_some (show S_ends ds = some d from h)
  obtain rfl := A1_some h1
  simp only [decide_eq_true_eq] at hp
  refine run_of ?_
  have kf := forL_idx (g := fBody C0 SS G0 (.nm 3) ends_of_B0) (ρ0 := [.sh (cC.enc c), .ow (.list []), .sh (.int 0), .no]) cInt.enc
    (fun n => [.sh (cC.enc c), .ow (.list (((List.range n).map (endAt c)).map cF.enc)), .sh (.int (c.take n).sum), .no]) c 0 fun k hk => by
      have hl : (((List.range k).map (endAt c)).map cF.enc).length < LINE := by simp; unfold LINE; omega
      have e1 := take_succ_sum c k hk
      have e2 : at0 c k = c[k] := by simp [at0, hk]
      rw [e2] at e1
      refine ⟨[.sh (cC.enc c), .ow (.list (((List.range (k + 1)).map (endAt c)).map cF.enc)), .sh (.int (c.take (k + 1)).sum), .sh (.int c[k])], ?_, by simp⟩
      have e3 : ((List.range (k + 1)).map (endAt c)).map cF.enc = ((List.range k).map (endAt c)).map cF.enc ++ [.tuple [.int (c.take k).sum, .int ((c.take k).sum + c[k])]] := by
        rw [List.range_succ, List.map_append, List.map_append, List.map_cons, List.map_nil, List.map_cons, List.map_nil]
        show _ ++ [PyData.tuple [.int (c.take k).sum, .int (c.take (k + 1)).sum]] = _
        rw [e1]
      rw [e3, e1, Nat.zero_add]
      generalize ((List.range k).map (endAt c)).map cF.enc = w at hl ⊢
      generalize (c.take k).sum = s
      generalize c[k] = x
      generalize cC.enc c = y
      simp [fBody, ends_of_B0, esc, escs, dApp, hl]
  have it : items (cC.enc c) = some (c.map cInt.enc) := rfl
  rw [Nat.zero_add] at kf
  simp only [List.range_zero, List.map_nil, List.take_zero, List.sum_nil] at kf
  show _ = some (Fl.rt (.tuple ((endsP c).map cF.enc)))
  unfold endsP
  generalize ((List.range c.length).map (endAt c)).map cF.enc = w at kf ⊢
  generalize c.map cInt.enc = q at it kf
  generalize cC.enc c = y at it kf ⊢
  unfold b_ends_of
  simp [esc, escs, escF, setAll, it, kf]
theorem SS_ends_of {c : Crs} (h : c.length ≤ 10) : SS id_ends_of [cC.enc c] = some ((cT cF).enc (endsP c)) := by
  show S_ends [cC.enc c] = _
  unfold S_ends
  exact spec_of (A1_enc cC c) (decide_eq_true h)
theorem sum_c (c : Crs) : dBi .sum (.tuple (c.map cInt.enc)) = some (.int c.sum) := by
  have e := i_sumf (xs := c) (f := fun x => x)
  rw [List.map_id' c] at e
  exact e
theorem r_law_ends : ∀ ds d, SS id_law_ends ds = some d → run optM C0 SS G0 n_law_ends.length b_law_ends ds = some d := by
  intro ds d h
  obtain ⟨c, h1, hp, rfl⟩ := spec_some (show S_lends ds = some d from h)
  obtain rfl := A1_some h1
  simp only [decide_eq_true_eq] at hp
  refine run_of ?_
  have il : dBi .len (cC.enc c) = some (.int c.length) := by simp [e_C]
  have ok := okR_nat (n := c.length) (by omega)
  have er := rng_nat c.length
  have cc : compL optM (oStep C0 SS G0 (.nm 1) .yes (.tup (.cons (.bi .sum (.sl (.var 0) .none (.var 1))) (.cons (.bi .sum (.sl (.var 0) .none (.bin .add (.var 1) (.int 1)))) .nil))) [.sh (cC.enc c), .no]) ((List.range c.length).map cNat.enc) = some ((endsP c).map cF.enc) := by
    unfold endsP
    rw [List.map_map]
    refine compL_all fun k hk => ?_
    have c1 : cut (c.map cInt.enc) none (some (k : Int)) = (c.take k).map cInt.enc := by rw [cut_to, List.map_take]
    have c2' : cut (c.map cInt.enc) none (some ((k : Int) + 1)) = (c.take (k + 1)).map cInt.enc := by rw [show (k : Int) + 1 = ((k + 1 : Nat) : Int) by omega, cut_to, List.map_take]
    have s1 := sum_c (c.take k)
    have s2 := sum_c (c.take (k + 1))
    show oStep _ _ _ _ _ _ _ (.int (k : Int)) = some (some (.tuple [.int (c.take k).sum, .int (c.take (k + 1)).sum]))
    simp only [e_C]
    generalize (c.take k).sum = v1 at s1 ⊢
    generalize (c.take (k + 1)).sum = v2 at s2 ⊢
    generalize (c.take k).map cInt.enc = w1 at c1 s1
    generalize (c.take (k + 1)).map cInt.enc = w2 at c2' s2
    generalize c.map cInt.enc = w at c1 c2' ⊢
    simp [oStep, bound?, c1, c2', s1, s2]
  show _ = some (Fl.rt (.list ((endsP c).map cF.enc)))
  generalize (endsP c).map cF.enc = w at cc ⊢
  generalize (List.range c.length).map cNat.enc = r at er cc
  generalize cC.enc c = y at il cc ⊢
  unfold b_law_ends
  simp [esc, escs, escS, il, ok, er, cc]
theorem SS_law_ends {c : Crs} (h : c.length ≤ 10) : SS id_law_ends [cC.enc c] = some (.list ((endsP c).map cF.enc)) := by
  show S_lends [cC.enc c] = _
  unfold S_lends
  exact spec_of (A1_enc cC c) (decide_eq_true h)
theorem ends_at {c : Crs} {n : Nat} (h : n < c.length) : dIx ((cT cF).enc (endsP c)) (.int (n : Int)) = some (cF.enc (endAt c n)) := by
  show atI ((endsP c).map cF.enc) _ = _
  unfold endsP
  rw [PV.atI_get (by simpa using h), List.getElem_map, List.getElem_map, List.getElem_range]
theorem lends_at {c : Crs} {n : Nat} (h : n < c.length) : dIx (.list ((endsP c).map cF.enc)) (.int (n : Int)) = some (cF.enc (endAt c n)) := ends_at h
theorem r_law_part : ∀ ds d, SS id_law_part ds = some d → run optM C0 SS G0 n_law_part.length b_law_part ds = some d := by
  intro ds d h
  obtain ⟨⟨a, b⟩, h1, hp, rfl⟩ := spec_some (show S_part ds = some d from h)
  obtain rfl := A2_some h1
  simp only [decide_eq_true_eq] at hp
  refine run_of ?_
  have e := SS_law_fraction (a := ovl a b) (b := a.2 - a.1) (okG_of ⟨hp.1, by
    have : (4 : Int) < 2 ^ 190 := by decide
    omega⟩)
  have e : SS id_law_fraction [.int (ovl a b), .int (a.2 - a.1)] = some (cF.enc (partP a b)) := e
  show _ = some (Fl.rt (cF.enc (partP a b)))
  generalize cF.enc (partP a b) = v at e ⊢
  simp [ovl, mx, mn] at e
  unfold b_law_part
  simp [esc, escs, e_F, e]
theorem SS_law_part {a b : Int × Int} (h : 0 < a.2 - a.1 ∧ a.2 - a.1 ≤ 4) : SS id_law_part [cF.enc a, cF.enc b] = some (cF.enc (partP a b)) := by
  show S_part [cF.enc a, cF.enc b] = _
  unfold S_part
  exact spec_of (A2_enc cF cF a b) (decide_eq_true h)
theorem r_by_length : ∀ ds d, SS id_by_length ds = some d → run optM C0 SS G0 n_by_length.length b_by_length ds = some d := by
  intro ds d h
  obtain ⟨⟨p, l⟩, h1, hp, rfl⟩ := spec_some (show S_bylen ds = some d from h)
  obtain rfl := A2_some h1
  refine run_of ?_
  have e := SS_parted hp
  rw [show cF.enc (l, 1) = .tuple [.int l, .int 1] from rfl] at e
  show _ = some (Fl.rt (cF.enc (fdv p (l, 1))))
  generalize cF.enc (fdv p (l, 1)) = v at e ⊢
  generalize cF.enc p = u at e ⊢
  unfold b_by_length
  simp [esc, escs, e]
theorem SS_by_length {p : Fr2} {l : Int} (h : okDv p (l, 1) = true) : SS id_by_length [cF.enc p, .int l] = some (cF.enc (fdv p (l, 1))) := by
  show S_bylen [cF.enc p, cInt.enc l] = _
  unfold S_bylen
  exact spec_of (A2_enc cF cInt p l) h
end PW

set_option maxHeartbeats 4000000
/-! What bears what: walls; loads, reckoned. -/
namespace PW
open PySem PyProof.Rows L2 PV
section
variable {wide : Int} {c up dn : Crs} {w : Wal} {n m k : Nat} {ex : List Int}
theorem sum_len : ∀ (c : Crs), (∀ l ∈ c, 1 ≤ l ∧ l ≤ 4) → (c.length : Int) ≤ c.sum
  | [], _ => by simp
  | l :: c, h => by
    have h1 := h l (by simp)
    have h2 := sum_len c fun x hx => h x (by simp [hx])
    simp only [List.length_cons, List.sum_cons]
    omega
theorem CrOk.len (h : CrOk wide c) (hw : 1 ≤ wide ∧ wide ≤ 8) : 1 ≤ c.length ∧ c.length ≤ 8 := by
  have h1 := sum_len c h.it
  have h2 := h.sum
  refine ⟨?_, by omega⟩
  cases c with
  | nil => simp at h2; omega
  | cons => simp
theorem at0_mem (h : n < c.length) : at0 c n ∈ c := by
  have : at0 c n = c[n] := by simp [at0, h]
  rw [this]
  exact List.getElem_mem h
theorem CrOk.at (h : CrOk wide c) (hn : n < c.length) : 1 ≤ at0 c n ∧ at0 c n ≤ 4 := h.it _ (at0_mem hn)
theorem end_dif (hn : n < c.length) : (endAt c n).2 - (endAt c n).1 = at0 c n := by
  show (c.take (n + 1)).sum - (c.take n).sum = _
  rw [take_succ_sum c n hn]
  omega
theorem LC_is (c : Crs) : LC c = 1 ∧ c.all (fun l => decide (l = 1)) = true ∨ LC c = 12 := by
  unfold LC
  split
  · rename_i h; exact .inl ⟨rfl, h⟩
  · exact .inr rfl
theorem LC_pos (c : Crs) : 1 ≤ LC c := by rcases LC_is c with h | h <;> omega
theorem LC_dvd (h : CrOk wide c) (hn : n < c.length) : at0 c n ∣ LC c := by
  have ha := h.at hn
  rcases LC_is c with ⟨e, h1⟩ | e
  · have := List.all_eq_true.mp h1 _ (at0_mem hn)
    simp only [decide_eq_true_eq] at this
    rw [this, e]
    exact Int.dvd_refl 1
  · rw [e]
    rcases (show at0 c n = 1 ∨ at0 c n = 2 ∨ at0 c n = 3 ∨ at0 c n = 4 by omega) with e | e | e | e <;> rw [e]
    · exact ⟨12, rfl⟩
    · exact ⟨6, rfl⟩
    · exact ⟨4, rfl⟩
    · exact ⟨3, rfl⟩
theorem prodL_pos : ∀ w : Wal, 1 ≤ prodL w
  | [] => by decide
  | c :: w => by
    have h1 := LC_pos c
    have h2 := prodL_pos w
    show 1 ≤ LC c * prodL w
    have := Int.mul_le_mul h1 h2 (by omega) (by omega)
    omega
theorem prodL_tail (c : Crs) (w : Wal) : prodL w ≤ prodL (c :: w) := by
  show prodL w ≤ LC c * prodL w
  have := Int.mul_le_mul_of_nonneg_right (LC_pos c) (show 0 ≤ prodL w by have := prodL_pos w; omega)
  omega
theorem WOk.tail {c : Crs} (h : WOk wide (c :: w)) (hw : w ≠ []) : WOk wide w where
  wd := h.wd
  len := by
    have := h.len
    simp only [List.length_cons] at this
    have : w.length ≠ 0 := fun e => hw (List.length_eq_zero_iff.mp e)
    omega
  it := fun d hd => h.it d (by simp [hd])
  lt := Int.lt_of_le_of_lt (prodL_tail c w) h.lt
theorem atC_mem (hk : k < w.length) : atC w k ∈ w := by
  have : atC w k = w[k] := by simp [atC, hk]
  rw [this]
  exact List.getElem_mem hk
theorem WOk.cr (h : WOk wide w) (hk : k < w.length) : CrOk wide (atC w k) := h.it _ (atC_mem hk)
theorem WOk.cl (h : WOk wide w) (hk : k < w.length) : 1 ≤ (atC w k).length ∧ (atC w k).length ≤ 8 := (h.cr hk).len h.wd
theorem WOk.drop (h : WOk wide w) (hk : k < w.length) : WOk wide (w.drop k) := by
  induction k generalizing w with
  | zero => exact h
  | succ k ih =>
    cases w with
    | nil => simp at hk
    | cons c w =>
      simp only [List.length_cons] at hk
      exact ih (h.tail (fun e => by rw [e] at hk; simp at hk)) (by omega)
theorem drop_at (hk : k < w.length) : w.drop k = atC w k :: w.drop (k + 1) := by
  rw [List.drop_eq_getElem_cons hk]
  simp [atC, hk]
theorem dn_mul {p q : Fr2} {N M : Int} (hp : Dn p N) (hq : Dn q M) (hN : 0 < N) (hM : 0 < M) : Dn (fmul p q) (N * M) := FR.toDn ((nu_rep hp hN).mul (nu_rep hq hM)) (red_mul hp hq)
theorem part_dn (hu : CrOk wide up) (hn : n < up.length) (b : Int × Int) : Dn (partP (endAt up n) b) (LC up) := by
  have ha := hu.at hn
  have e := end_dif hn
  unfold partP
  rw [e]
  exact (dn_fr (by omega)).mono (LC_dvd hu hn)
theorem part_ok (hu : CrOk wide up) (hn : n < up.length) : 0 < (endAt up n).2 - (endAt up n).1 ∧ (endAt up n).2 - (endAt up n).1 ≤ 4 := by
  have ha := hu.at hn
  rw [end_dif hn]
  omega
/-- the loads of the lowest course -/
def row0 (ex : List Int) (w : Wal) : List Fr2 := (lodP ex w).getD 0 []
theorem row0_two (ex : List Int) (dn up : Crs) (rest : Wal) : row0 ex (dn :: up :: rest) = rowP up dn (row0 ex (up :: rest)) := rfl
theorem lod_two (ex : List Int) (dn up : Crs) (rest : Wal) : lodP ex (dn :: up :: rest) = rowP up dn (row0 ex (up :: rest)) :: lodP ex (up :: rest) := rfl
theorem getD_dn {N : Int} {l : List Fr2} (h : ∀ x ∈ l, Dn x N) (n : Nat) : Dn (l.getD n (0, 1)) N := by
  rcases Nat.lt_or_ge n l.length with c | c
  · have : l.getD n (0, 1) = l[n] := by simp [c]
    rw [this]
    exact h _ (List.getElem_mem c)
  · have : l.getD n (0, 1) = (0, 1) := by simp [c]
    rw [this]
    exact dn_int 0
theorem term_dn {ld : List Fr2} {N : Int} (hu : CrOk wide up) (hN : 0 < N) (hl : ∀ x ∈ ld, Dn x N) (hn : n < up.length) : Dn (term up dn ld m n) (LC up * N) := dn_mul (part_dn hu hn _) (dn_add (getD_dn hl n) (dn_int _) hN) (by have := LC_pos up; omega) hN
theorem tots_dn {N : Int} (hN : 0 < N) (bN : N ≤ BIG) {xs : List Fr2} (h : ∀ x ∈ xs, Dn x N) : okTot (0, 1) xs = true ∧ Dn (ftot xs) N := tot_ok hN bN xs (0, 1) (dn_int 0) h
theorem rowP_dn {ld : List Fr2} {N : Int} (hu : CrOk wide up) (hN : 0 < N) (hl : ∀ x ∈ ld, Dn x N) (hB : LC up * N ≤ BIG) : ∀ x ∈ rowP up dn ld, Dn x (LC up * N) := fun x hx => by
  obtain ⟨m, _, rfl⟩ := List.mem_map.mp hx
  refine (tots_dn (Int.mul_pos (by have := LC_pos up; omega) hN) hB fun y hy => ?_).2
  obtain ⟨n, hn, rfl⟩ := List.mem_map.mp hy
  exact term_dn hu hN hl (List.mem_range.mp hn)
theorem big_of {w : Wal} (h : WOk wide w) : prodL w ≤ BIG := by
  have := h.lt
  unfold BIG
  omega
theorem row0_dn : ∀ w, WOk wide w → ∀ x ∈ row0 ex w, Dn x (prodL w.tail)
  | [], h, _, _ => by have := h.len; simp at this
  | [c], h, x, hx => by
    have hx : x ∈ ex.map fun x => ((x, 1) : Fr2) := hx
    obtain ⟨y, _, rfl⟩ := List.mem_map.mp hx
    exact dn_int y
  | dn :: up :: rest, h, x, hx => by
    have ht := h.tail (by simp)
    have ih := row0_dn (up :: rest) ht
    have hp := prodL_pos rest
    exact rowP_dn (ht.it up (by simp)) (by show 0 < prodL rest; omega) ih (big_of ht) x hx
theorem lod_len (ex : List Int) : ∀ w : Wal, (lodP ex w).length = w.length
  | [] => rfl
  | [_] => rfl
  | dn :: up :: rest => by rw [lod_two, List.length_cons, lod_len ex (up :: rest)]; rfl
theorem lod_drop (ex : List Int) : ∀ (w : Wal) (k : Nat), k < w.length → (lodP ex w).getD k [] = row0 ex (w.drop k)
  | w, 0, _ => rfl
  | [], k + 1, h => by simp at h
  | [c], k + 1, h => by simp at h
  | dn :: up :: rest, k + 1, h => by
    rw [lod_two]
    exact lod_drop ex (up :: rest) k (by simpa using h)
theorem last_two (dn up : Crs) (rest : Wal) : (dn :: up :: rest).getLastD [] = (up :: rest).getLastD [] := by simp [List.getLastD]
theorem row0_len : ∀ w, WOk wide w → ex.length = (w.getLastD []).length → (row0 ex w).length = (atC w 0).length
  | [], h, _ => by have := h.len; simp at this
  | [c], h, e => by
    show (ex.map fun x => ((x, 1) : Fr2)).length = _
    rw [List.length_map, e]
    rfl
  | dn :: up :: rest, h, e => by
    show (rowP up dn _).length = _
    unfold rowP
    rw [List.length_map, List.length_range]
    rfl
theorem last_drop : ∀ (w : Wal) (k : Nat), k < w.length → (w.drop k).getLastD [] = w.getLastD []
  | w, 0, _ => rfl
  | [], k + 1, h => by simp at h
  | [c], k + 1, h => by simp at h
  | dn :: up :: rest, k + 1, h => by
    rw [last_two]
    exact last_drop (up :: rest) k (by simpa using h)
theorem okW_it (h : okW w = true) : ∃ wide, WOk wide w := by
  unfold okW at h
  simpa using h
theorem okW_of (h : WOk wide w) : okW w = true := by
  unfold okW
  simpa using ⟨wide, h⟩
theorem w_at (hk : k < w.length) : dIx (cW.enc w) (.int (k : Int)) = some (cC.enc (atC w k)) := by
  have : atC w k = w[k] := by simp [atC, hk]
  rw [this, e_W]
  show atI _ _ = _
  rw [PV.atI_get (by simpa using hk), List.getElem_map]
theorem c_at (hn : n < c.length) : dIx (cC.enc c) (.int (n : Int)) = some (.int (at0 c n)) := by
  have : at0 c n = c[n] := by simp [at0, hn]
  rw [this, e_C]
  show atI _ _ = _
  rw [PV.atI_get (by simpa using hn), List.getElem_map]
  rfl
theorem c_len (c : Crs) : dBi .len (cC.enc c) = some (.int c.length) := by simp [e_C]
theorem w_len (w : Wal) : dBi .len (cW.enc w) = some (.int w.length) := by simp [e_W]
end
theorem r_shared : ∀ ds d, SS id_shared ds = some d → run optM C0 SS G0 n_shared.length b_shared ds = some d := by
  intro ds d h
  obtain ⟨⟨w, k, n, m⟩, h1, hp, rfl⟩ := spec_some (show S_shared ds = some d from h)
  obtain rfl := A4_some h1
  simp only [Bool.and_eq_true, decide_eq_true_eq] at hp
  obtain ⟨hw, k0, k1, hn, hm⟩ := hp
  obtain ⟨wide, hw⟩ := okW_it hw
  obtain ⟨k, rfl⟩ : ∃ j, k = j + 1 := ⟨k - 1, by omega⟩
  simp only [Nat.add_sub_cancel] at hm
  have ek : ((k + 1 : Nat) : Int) = (k : Int) + 1 := by omega
  refine run_of ?_
  have g1 := w_at (w := w) (k := k + 1) k1
  rw [ek] at g1
  have g2 := w_at (w := w) (k := k) (by omega)
  have e1 := SS_ends_of (c := atC w (k + 1)) (by have := hw.cl k1; omega)
  have e2 := SS_ends_of (c := atC w k) (by have := hw.cl (k := k) (by omega); omega)
  have g3 := ends_at (c := atC w (k + 1)) hn
  have g4 := ends_at (c := atC w k) hm
  have pk := part_ok (hw.cr k1) hn
  have e3 := SS_fraction (a := ovl (endAt (atC w (k + 1)) n) (endAt (atC w k) m)) (b := (endAt (atC w (k + 1)) n).2 - (endAt (atC w (k + 1)) n).1) (okG_of ⟨pk.1, by
    have : (4 : Int) < 2 ^ 190 := by decide
    omega⟩)
  show _ = some (Fl.rt (cF.enc (partP (endAt (atC w (k + 1)) n) (endAt (atC w k) m))))
  have e3 : SS id_fraction [.int (ovl (endAt (atC w (k + 1)) n) (endAt (atC w k) m)), .int ((endAt (atC w (k + 1)) n).2 - (endAt (atC w (k + 1)) n).1)] = some (cF.enc (partP (endAt (atC w (k + 1)) n) (endAt (atC w k) m))) := e3
  simp only [ovl] at e3
  generalize cF.enc (partP (endAt (atC w (k + 1)) n) (endAt (atC w k) m)) = v at e3 ⊢
  rw [e_F] at g3 g4
  generalize (endAt (atC w (k + 1)) n).1 = a1 at g3 e3
  generalize (endAt (atC w (k + 1)) n).2 = a2 at g3 e3
  generalize (endAt (atC w k) m).1 = b1 at g4 e3
  generalize (endAt (atC w k) m).2 = b2 at g4 e3
  generalize (cT cF).enc (endsP (atC w (k + 1))) = x1 at e1 g3
  generalize (cT cF).enc (endsP (atC w k)) = x2 at e2 g4
  generalize cC.enc (atC w (k + 1)) = y1 at g1 e1
  generalize cC.enc (atC w k) = y2 at g2 e2
  generalize cW.enc w = x at g1 g2 ⊢
  simp [mx, mn] at e3
  unfold b_shared
  simp [esc, escs, g1, g2, e1, e2, g3, g4, e3]
theorem SS_shared {wide : Int} {w : Wal} {k n m : Nat} (h : WOk wide w) (hk : k + 1 < w.length) (hn : n < (atC w (k + 1)).length) (hm : m < (atC w k).length) : SS id_shared [cW.enc w, .int ((k : Int) + 1), .int n, .int m] = some (cF.enc (partP (endAt (atC w (k + 1)) n) (endAt (atC w k) m))) := by
  have e := spec_of (p := fun z : Wal × Nat × Nat × Nat => okW z.1 && decide (0 < z.2.1 ∧ z.2.1 < z.1.length ∧ z.2.2.1 < (atC z.1 z.2.1).length ∧ z.2.2.2 < (atC z.1 (z.2.1 - 1)).length)) (f := fun z => cF.enc (partP (endAt (atC z.1 z.2.1) z.2.2.1) (endAt (atC z.1 (z.2.1 - 1)) z.2.2.2))) (A4_enc cW cNat cNat cNat w (k + 1) n m) (by
    simp only [okW_of h, Bool.true_and, Nat.add_sub_cancel]
    exact decide_eq_true ⟨by omega, hk, hn, hm⟩)
  have ek : ((k + 1 : Nat) : Int) = (k : Int) + 1 := by omega
  have e2 : S_shared [cW.enc w, .int ((k + 1 : Nat) : Int), .int n, .int m] = some (cF.enc (partP (endAt (atC w (k + 1)) n) (endAt (atC w k) m))) := e
  rw [ek] at e2
  exact e2
end PW

set_option maxHeartbeats 4000000
/-! What bears what: the program's loads, reckoned. -/
namespace PW
open PySem PyProof.Rows L2 PV
theorem ok_mul' {p q : Fr2} {N M : Int} (hp : Dn p N) (hq : Dn q M) (hN : 0 < N) (hM : 0 < M) (bN : N ≤ BIG) (bM : M ≤ BIG) (hs : PV.small64 p.1 = true) : okMul p q = true := by
  unfold okMul
  rw [ok_lt hp hq hN hM bN bM, okG_of (prod_big (hp.bd hN bN) (hq.bd hM bM)), hs]
  simp
section
variable {wide : Int} {c up dn : Crs} {w : Wal} {n m k j : Nat} {ex : List Int}
theorem ovl_le (a b : Int × Int) (h : 0 < a.2 - a.1 ∧ a.2 - a.1 ≤ 4) : 0 ≤ ovl a b ∧ ovl a b ≤ 4 := by
  unfold ovl mx mn
  split <;> split <;> split <;> omega
theorem part_sm (hu : CrOk wide up) (hn : n < up.length) (b : Int × Int) : PV.small64 (partP (endAt up n) b).1 = true := by
  have h1 := part_ok hu hn
  have h2 := ovl_le (endAt up n) b h1
  have h3 := (fr_le (a := ovl (endAt up n) b) (b := (endAt up n).2 - (endAt up n).1) h1.1).2
  exact sm_abs (by unfold partP; omega)
/-- the two courses at a step, and what lies above -/
structure Stp (wide : Int) (w : Wal) (ex : List Int) (j : Nat) : Prop where
  ok : WOk wide w
  hj : j + 1 < w.length
  hx : ex.length = (w.getLastD []).length
theorem Stp.ou (h : Stp wide w ex j) : CrOk wide (atC w (j + 1)) := h.ok.cr h.hj
theorem Stp.od (h : Stp wide w ex j) : CrOk wide (atC w j) := h.ok.cr (by have := h.hj; omega)
theorem Stp.ul (h : Stp wide w ex j) : 1 ≤ (atC w (j + 1)).length ∧ (atC w (j + 1)).length ≤ 8 := h.ok.cl h.hj
theorem Stp.dl (h : Stp wide w ex j) : 1 ≤ (atC w j).length ∧ (atC w j).length ≤ 8 := h.ok.cl (by have := h.hj; omega)
def ldU (ex : List Int) (w : Wal) (j : Nat) : List Fr2 := row0 ex (w.drop (j + 1))
theorem Stp.ll (h : Stp wide w ex j) : (ldU ex w j).length = (atC w (j + 1)).length := by
  have e := row0_len (ex := ex) (w.drop (j + 1)) (h.ok.drop h.hj) (by rw [last_drop w (j + 1) h.hj]; exact h.hx)
  unfold ldU
  rw [e, drop_at h.hj]
  rfl
theorem Stp.ld (h : Stp wide w ex j) : ∀ x ∈ ldU ex w j, Dn x (prodL (w.drop (j + 2))) := fun x hx => by
  have := row0_dn (w.drop (j + 1)) (h.ok.drop h.hj) x hx
  rw [List.tail_drop] at this
  exact this
theorem Stp.pp (h : Stp wide w ex j) : 0 < prodL (w.drop (j + 2)) ∧ prodL (w.drop (j + 2)) ≤ BIG ∧ 0 < LC (atC w (j + 1)) * prodL (w.drop (j + 2)) ∧ LC (atC w (j + 1)) * prodL (w.drop (j + 2)) ≤ BIG := by
  have h1 := prodL_pos (w.drop (j + 2))
  have h2 := big_of (h.ok.drop h.hj)
  rw [drop_at h.hj] at h2
  have h3 := prodL_tail (atC w (j + 1)) (w.drop (j + 2))
  have h4 := prodL_pos (atC w (j + 1) :: w.drop (j + 2))
  have e : prodL (atC w (j + 1) :: w.drop (j + 2)) = LC (atC w (j + 1)) * prodL (w.drop (j + 2)) := rfl
  rw [e] at h2 h3 h4
  omega
theorem Stp.LCb (c : Crs) : 0 < LC c ∧ LC c ≤ BIG := by
  have h1 := LC_pos c
  refine ⟨by omega, ?_⟩
  rcases LC_is c with ⟨e, _⟩ | e <;> rw [e] <;> decide
theorem Stp.next (h : Stp wide w ex j) : lodP ex (w.drop j) = rowP (atC w (j + 1)) (atC w j) (ldU ex w j) :: lodP ex (w.drop (j + 1)) := by
  have hj := h.hj
  rw [drop_at (show j < w.length by omega)]
  unfold ldU
  rw [drop_at hj, lod_two]
def tmP (ex : List Int) (w : Wal) (j m n : Nat) : Fr2 := term (atC w (j + 1)) (atC w j) (ldU ex w j) m n
theorem Stp.tm (h : Stp wide w ex j) (hn : n < (atC w (j + 1)).length) : Dn (tmP ex w j m n) (LC (atC w (j + 1)) * prodL (w.drop (j + 2))) := term_dn h.ou h.pp.1 h.ld hn
theorem Stp.whole (h : Stp wide w ex j) (n : Nat) : Dn (fadd ((ldU ex w j).getD n (0, 1)) (at0 (atC w (j + 1)) n, 1)) (prodL (w.drop (j + 2))) ∧ okAdd ((ldU ex w j).getD n (0, 1)) (at0 (atC w (j + 1)) n, 1) = true := ⟨dn_add (getD_dn h.ld n) (dn_int _) h.pp.1, ok_add (getD_dn h.ld n) (dn_int (N := 1) _) h.pp.1 (by decide) h.pp.2.1 (by decide)⟩
theorem row_at {l : List Fr2} (hn : n < l.length) : dIx ((cT cF).enc l) (.int (n : Int)) = some (cF.enc (l.getD n (0, 1))) := by
  have : l.getD n (0, 1) = l[n] := by simp [hn]
  rw [this]
  show atI (l.map cF.enc) _ = _
  rw [PV.atI_get (by simpa using hn), List.getElem_map]
theorem rowl_at {l : List Fr2} (hn : n < l.length) : dIx (.list (l.map cF.enc)) (.int (n : Int)) = some (cF.enc (l.getD n (0, 1))) := row_at hn
def fD (l : Lds) : List D := l.map (cT cF).enc
theorem fD_at0 (h : Stp wide w ex j) : dIx (.list (fD (lodP ex (w.drop (j + 1))))) (.int 0) = some ((cT cF).enc (ldU ex w j)) := by
  have hl : 0 < (lodP ex (w.drop (j + 1))).length := by rw [lod_len, List.length_drop]; have := h.hj; omega
  have e : ldU ex w j = (lodP ex (w.drop (j + 1)))[0] := by
    unfold ldU row0
    simp [hl]
  rw [e]
  show atI (fD (lodP ex (w.drop (j + 1)))) ((0 : Nat) : Int) = _
  unfold fD
  rw [PV.atI_get (by simpa using hl), List.getElem_map]
def eP (w : Wal) (ex : List Int) (j : Nat) (row : List D) (s5 s6 s7 : PV.Slot) : PV.Env := [.sh (cW.enc w), .sh (cC.enc ex), .ow (.list (fD (lodP ex (w.drop (j + 1))))), .sh (.int ((j : Int) + 1)), .ow (.list row), s5, s6, s7, .no]
def tmL (ex : List Int) (w : Wal) (j m n : Nat) : List Fr2 := (List.range n).map (tmP ex w j m)
theorem press_n (h : Stp wide w ex j) (hm : m < (atC w j).length) (row : List D) : forL optM (fBody C0 SS G0 (.nm 7) pressed_B2) (eP w ex j row (.sh (.int m)) (.ow (.list [])) .no) ((List.range (atC w (j + 1)).length).map cNat.enc) (eP w ex j row (.sh (.int m)) (.ow (.list [])) .no) = some (.nx (eP w ex j row (.sh (.int m)) (.ow (.list ((tmL ex w j m (atC w (j + 1)).length).map cF.enc))) .no)) := by
  refine forL_rng (fun n => eP w ex j row (.sh (.int m)) (.ow (.list ((tmL ex w j m n).map cF.enc))) .no) _ fun n hn => ?_
  refine ⟨eP w ex j row (.sh (.int m)) (.ow (.list ((tmL ex w j m (n + 1)).map cF.enc))) (.sh (.int n)), ?_, by simp [eP]⟩
  have hul := h.ul
  have e1 := SS_shared (n := n) (m := m) h.ok h.hj hn hm
  have g1 := fD_at0 h
  have g2 := row_at (l := ldU ex w j) (n := n) (by rw [h.ll]; exact hn)
  have g3 := w_at (w := w) (k := j + 1) h.hj
  have g4 := c_at (c := atC w (j + 1)) hn
  obtain ⟨wd, wo⟩ := h.whole n
  have e2 := SS_plus wo
  have pp := h.pp
  have lb := Stp.LCb (atC w (j + 1))
  have e3 := SS_times (ok_mul' (part_dn h.ou hn (endAt (atC w j) m)) wd lb.1 pp.1 lb.2 pp.2.1 (part_sm h.ou hn _))
  have e3 : SS id_times [cF.enc (partP (endAt (atC w (j + 1)) n) (endAt (atC w j) m)), cF.enc (fadd ((ldU ex w j).getD n (0, 1)) (at0 (atC w (j + 1)) n, 1))] = some (cF.enc (tmP ex w j m n)) := e3
  rw [show ((j + 1 : Nat) : Int) = (j : Int) + 1 by omega] at g3
  rw [show cF.enc (at0 (atC w (j + 1)) n, 1) = .tuple [.int (at0 (atC w (j + 1)) n), .int 1] from rfl] at e2
  have hl : ((tmL ex w j m n).map cF.enc).length < LINE := by unfold tmL; simp; unfold LINE; omega
  have et : (tmL ex w j m (n + 1)).map cF.enc = (tmL ex w j m n).map cF.enc ++ [cF.enc (tmP ex w j m n)] := by
    unfold tmL
    rw [List.range_succ, List.map_append, List.map_append]
    rfl
  rw [et]
  unfold eP
  generalize cF.enc (tmP ex w j m n) = v at e3 ⊢
  generalize cF.enc (partP (endAt (atC w (j + 1)) n) (endAt (atC w j) m)) = v1 at e1 e3
  generalize cF.enc (fadd ((ldU ex w j).getD n (0, 1)) (at0 (atC w (j + 1)) n, 1)) = v2 at e2 e3
  generalize cF.enc ((ldU ex w j).getD n (0, 1)) = v3 at g2 e2
  generalize at0 (atC w (j + 1)) n = a at g4 e2
  generalize cC.enc (atC w (j + 1)) = y at g3 g4
  generalize (cT cF).enc (ldU ex w j) = u at g1 g2
  generalize fD (lodP ex (w.drop (j + 1))) = f at g1 ⊢
  generalize (tmL ex w j m n).map cF.enc = tl at hl ⊢
  generalize cW.enc w = x at e1 g3 ⊢
  generalize cC.enc ex = z
  simp [fBody, pressed_B2, esc, escs, dApp, e1, e2, e3, g1, g2, g3, g4, hl]
theorem tm_ok (h : Stp wide w ex j) (m : Nat) : okTot (0, 1) (tmL ex w j m (atC w (j + 1)).length) = true ∧ Dn (ftot (tmL ex w j m (atC w (j + 1)).length)) (LC (atC w (j + 1)) * prodL (w.drop (j + 2))) := tots_dn h.pp.2.2.1 h.pp.2.2.2 fun x hx => by
  obtain ⟨n, hn, rfl⟩ := List.mem_map.mp hx
  exact h.tm (List.mem_range.mp hn)
def rwL (ex : List Int) (w : Wal) (j m : Nat) : List Fr2 := (List.range m).map fun m => ftot (tmL ex w j m (atC w (j + 1)).length)
theorem press_m (h : Stp wide w ex j) : forL optM (fBody C0 SS G0 (.nm 5) pressed_B1) (eP w ex j [] .no .no .no) ((List.range (atC w j).length).map cNat.enc) (eP w ex j [] .no .no .no) = some (.nx (eP w ex j ((rwL ex w j (atC w j).length).map cF.enc) .no .no .no)) := by
  refine forL_rng (fun m => eP w ex j ((rwL ex w j m).map cF.enc) .no .no .no) _ fun m hm => ?_
  have hul := h.ul
  have hdl := h.dl
  refine ⟨eP w ex j ((rwL ex w j (m + 1)).map cF.enc) (.sh (.int m)) (.sh (.list ((tmL ex w j m (atC w (j + 1)).length).map cF.enc))) .no, ?_, by simp [eP]⟩
  have kn := press_n h hm ((rwL ex w j m).map cF.enc)
  have g3 := w_at (w := w) (k := j + 1) h.hj
  rw [show ((j + 1 : Nat) : Int) = (j : Int) + 1 by omega] at g3
  have il := c_len (atC w (j + 1))
  have ok := okR_nat (n := (atC w (j + 1)).length) (by omega)
  have er := rng_nat (atC w (j + 1)).length
  have e1 := SS_total (tm_ok h m).1
  have hl : ((rwL ex w j m).map cF.enc).length < LINE := by unfold rwL; simp; unfold LINE; omega
  have et : (rwL ex w j (m + 1)).map cF.enc = (rwL ex w j m).map cF.enc ++ [cF.enc (ftot (tmL ex w j m (atC w (j + 1)).length))] := by
    unfold rwL
    rw [List.range_succ, List.map_append, List.map_append]
    rfl
  rw [et]
  unfold eP at kn ⊢
  generalize cF.enc (ftot (tmL ex w j m (atC w (j + 1)).length)) = v at e1 ⊢
  generalize (tmL ex w j m (atC w (j + 1)).length).map cF.enc = tl at kn e1 ⊢
  generalize (rwL ex w j m).map cF.enc = rl at kn hl ⊢
  generalize (List.range (atC w (j + 1)).length).map cNat.enc = r at er kn
  generalize ((atC w (j + 1)).length : Int) = nn at il ok er
  generalize cC.enc (atC w (j + 1)) = y at g3 il
  generalize fD (lodP ex (w.drop (j + 1))) = f at kn ⊢
  generalize cW.enc w = x at g3 kn ⊢
  generalize cC.enc ex = z at kn ⊢
  simp [fBody, pressed_B1, esc, escs, escF, dApp, g3, il, ok, er, kn, e1, hl]
theorem rwL_is : rwL ex w j (atC w j).length = rowP (atC w (j + 1)) (atC w j) (ldU ex w j) := rfl
theorem press_k (h : Stp wide w ex j) : ∃ ρ', fBody C0 SS G0 (.nm 3) pressed_B0 (.int ((j : Int) + 1)) [.sh (cW.enc w), .sh (cC.enc ex), .ow (.list (fD (lodP ex (w.drop (j + 1))))), .no, .no, .no, .no, .no, .no] = some (.nx ρ') ∧ msk [.sh (cW.enc w), .sh (cC.enc ex), .ow (.list []), .no, .no, .no, .no, .no, .no] ρ' = [.sh (cW.enc w), .sh (cC.enc ex), .ow (.list (fD (lodP ex (w.drop j)))), .no, .no, .no, .no, .no, .no] := by
  have hdl := h.dl
  have hj := h.hj
  have km := press_m h
  rw [rwL_is] at km
  have g3 := w_at (w := w) (k := j) (by omega)
  have il := c_len (atC w j)
  have ok := okR_nat (n := (atC w j).length) (by omega)
  have er := rng_nat (atC w j).length
  have hlen : (fD (lodP ex (w.drop (j + 1)))).length < LINE := by
    unfold fD
    rw [List.length_map, lod_len, List.length_drop]
    have := h.ok.len
    unfold LINE
    omega
  have en : fD (lodP ex (w.drop j)) = .tuple ((rowP (atC w (j + 1)) (atC w j) (ldU ex w j)).map cF.enc) :: fD (lodP ex (w.drop (j + 1))) := by
    rw [h.next]
    rfl
  rw [en]
  refine ⟨[.sh (cW.enc w), .sh (cC.enc ex), .ow (.list (.tuple ((rowP (atC w (j + 1)) (atC w j) (ldU ex w j)).map cF.enc) :: fD (lodP ex (w.drop (j + 1))))), .sh (.int ((j : Int) + 1)), .ow (.list ((rowP (atC w (j + 1)) (atC w j) (ldU ex w j)).map cF.enc)), .no, .no, .no, .no], ?_, by simp⟩
  unfold eP at km
  generalize (rowP (atC w (j + 1)) (atC w j) (ldU ex w j)).map cF.enc = rl at km ⊢
  generalize (List.range (atC w j).length).map cNat.enc = r at er km
  generalize ((atC w j).length : Int) = nn at il ok er
  generalize cC.enc (atC w j) = y at g3 il
  generalize fD (lodP ex (w.drop (j + 1))) = f at km hlen ⊢
  generalize cW.enc w = x at g3 km ⊢
  generalize cC.enc ex = z at km ⊢
  simp [fBody, pressed_B0, esc, escs, escF, dIns0, g3, il, ok, er, km, hlen]
end
theorem okX_it {w : Wal} {ex : List Int} (h : okX w ex = true) : ex.length = (w.getLastD []).length ∧ ∀ x ∈ ex, 0 ≤ x ∧ x ≤ 4 := by
  simp only [okX, Bool.and_eq_true, decide_eq_true_eq, List.all_eq_true] at h
  exact h
theorem lod_last (ex : List Int) (w : Wal) (h : 1 ≤ w.length) : lodP ex (w.drop (w.length - 1)) = [ex.map fun x => (x, 1)] := by
  rw [drop_at (show w.length - 1 < w.length by omega), List.drop_of_length_le (by omega)]
  rfl
theorem r_pressed : ∀ ds d, SS id_pressed ds = some d → run optM C0 SS G0 n_pressed.length b_pressed ds = some d := by
  intro ds d h
  obtain ⟨⟨w, ex⟩, h1, hp, rfl⟩ := spec_some (show S_press ds = some d from h)
  obtain rfl := A2_some h1
  simp only [Bool.and_eq_true] at hp
  obtain ⟨wide, hw⟩ := okW_it hp.1
  obtain ⟨hx, _⟩ := okX_it hp.2
  have hl := hw.len
  refine run_of ?_
  have kf := forL_idx (g := fBody C0 SS G0 (.nm 3) pressed_B0) (ρ0 := [.sh (cW.enc w), .sh (cC.enc ex), .ow (.list []), .no, .no, .no, .no, .no, .no]) (fun i : Nat => .int ((w.length : Int) - 1 - i))
    (fun i => [.sh (cW.enc w), .sh (cC.enc ex), .ow (.list (fD (lodP ex (w.drop (w.length - 1 - i))))), .no, .no, .no, .no, .no, .no]) (List.range (w.length - 1)) 0 fun i hi => by
      rw [List.length_range] at hi
      rw [List.getElem_range, Nat.zero_add]
      have st : Stp wide w ex (w.length - 2 - i) := ⟨hw, by omega, hx⟩
      have := press_k st
      rw [show w.length - 2 - i + 1 = w.length - 1 - i by omega, show ((w.length - 2 - i : Nat) : Int) + 1 = (w.length : Int) - 1 - i by omega] at this
      rw [show w.length - 1 - (i + 1) = w.length - 2 - i by omega]
      exact this
  have kf2 : ∀ f : List D, forL optM (fBody C0 SS G0 (.nm 3) pressed_B0) [.sh (cW.enc w), .sh (cC.enc ex), .ow (.list f), .no, .no, .no, .no, .no, .no] ((List.range (w.length - 1)).map fun i : Nat => .int ((w.length : Int) - 1 - i)) [.sh (cW.enc w), .sh (cC.enc ex), .ow (.list (fD (lodP ex (w.drop (w.length - 1 - 0))))), .no, .no, .no, .no, .no, .no] = some (.nx [.sh (cW.enc w), .sh (cC.enc ex), .ow (.list (fD (lodP ex w))), .no, .no, .no, .no, .no, .no]) := fun f => by
    have e : ∀ (ρ : PV.Env) (xs : List D), forL optM (fBody C0 SS G0 (.nm 3) pressed_B0) [.sh (cW.enc w), .sh (cC.enc ex), .ow (.list f), .no, .no, .no, .no, .no, .no] xs ρ = forL optM (fBody C0 SS G0 (.nm 3) pressed_B0) [.sh (cW.enc w), .sh (cC.enc ex), .ow (.list []), .no, .no, .no, .no, .no, .no] xs ρ := fun ρ xs => by
      have em : msk [.sh (cW.enc w), .sh (cC.enc ex), .ow (.list f), .no, .no, .no, .no, .no, .no] = msk [.sh (cW.enc w), .sh (cC.enc ex), .ow (.list []), .no, .no, .no, .no, .no, .no] := funext fun ρ => by
        unfold msk
        refine List.mapIdx_eq_mapIdx_iff.mpr fun i hi => ?_
        match i with
        | 0 => rfl
        | 1 => rfl
        | 2 => rfl
        | i + 3 => rfl
      induction xs generalizing ρ with
      | nil => unfold forL; rfl
      | cons x xs ih =>
        unfold forL
        congr 1
        funext f2
        cases f2 with
        | nx ρ2 => rw [em]; exact ih _
        | rt d => rfl
        | bk ρ2 => rw [em]
    rw [e]
    have := kf
    rw [Nat.zero_add, List.length_range, Nat.sub_self, List.drop_zero] at this
    exact this
  rw [Nat.sub_zero, lod_last ex w hl.1] at kf2
  have il := w_len w
  have ok : okR 0 ((w.length : Int) - 1) = true := by unfold okR LINE; exact decide_eq_true (by omega)
  have er : rngD ((w.length : Int) - 1) 0 = (List.range (w.length - 1)).map fun i : Nat => .int ((w.length : Int) - 1 - i) := by
    unfold rngD
    rw [show ((w.length : Int) - 1 - 0).toNat = w.length - 1 by omega]
  have it : items (cC.enc ex) = some (ex.map cInt.enc) := rfl
  have cc : ∀ s2 : PV.Slot, compL optM (oStep C0 SS G0 (.nm 8) .yes (.tup (.cons (.var 8) (.cons (.int 1) .nil))) [.sh (cW.enc w), .sh (cC.enc ex), s2, .no, .no, .no, .no, .no, .no]) (ex.map cInt.enc) = some ((ex.map fun x => ((x, 1) : Fr2)).map cF.enc) := fun s2 => by
    rw [List.map_map]
    refine compL_all fun x _ => ?_
    show oStep _ _ _ _ _ _ _ (.int x) = some (some (.tuple [.int x, .int 1]))
    generalize cC.enc ex = y
    generalize cW.enc w = z
    simp [oStep]
  have e0 : fD [ex.map fun x => ((x, 1) : Fr2)] = [.tuple ((ex.map fun x => ((x, 1) : Fr2)).map cF.enc)] := rfl
  rw [e0] at kf2
  show _ = some (Fl.rt (.tuple (fD (lodP ex w))))
  generalize fD (lodP ex w) = v at kf2 ⊢
  generalize (ex.map fun x => ((x, 1) : Fr2)).map cF.enc = u at cc kf2
  generalize ((List.range (w.length - 1)).map fun i : Nat => PyData.int ((w.length : Int) - 1 - i)) = r at er kf2
  generalize (w.length : Int) = nn at il ok er
  generalize ex.map cInt.enc = q at it cc
  generalize cC.enc ex = y at it cc kf2 ⊢
  generalize cW.enc w = x at il cc kf2 ⊢
  unfold b_pressed
  simp [esc, escs, escS, escF, il, ok, er, it, cc, kf2]
end PW

set_option maxHeartbeats 4000000
/-! What bears what: the law's loads, reckoned. -/
namespace PW
open PySem PyProof.Rows L2 PV
theorem SS_pressed {wide : Int} {w : Wal} {ex : List Int} (h : WOk wide w) (hx : okX w ex = true) : SS id_pressed [cW.enc w, cC.enc ex] = some (cLd.enc (lodP ex w)) := by
  have e := spec_of (p := fun z : Wal × List Int => okW z.1 && okX z.1 z.2) (f := fun z => cLd.enc (lodP z.2 z.1)) (A2_enc cW cC w ex) (by simp only [okW_of h, hx, Bool.and_self])
  exact e
theorem SS_law_loads {wide : Int} {w : Wal} {ex : List Int} (h : WOk wide w) (hx : okX w ex = true) : SS id_law_loads [cW.enc w, cC.enc ex] = some (cLd.enc (lodP ex w)) := SS_pressed h hx
theorem fmul_comm (p q : Fr2) : fmul p q = fmul q p := by
  unfold fmul
  rw [Int.mul_comm p.1, Int.mul_comm p.2]
section
variable {wide : Int} {w : Wal} {n m j : Nat} {ex : List Int}
theorem ftot_snoc (xs : List Fr2) (x : Fr2) : ftot (xs ++ [x]) = fadd (ftot xs) x := by
  unfold ftot
  rw [List.foldl_append]
  rfl
theorem tmL_succ : ftot (tmL ex w j m (n + 1)) = fadd (ftot (tmL ex w j m n)) (tmP ex w j m n) := by
  unfold tmL
  rw [List.range_succ, List.map_append]
  exact ftot_snoc _ _
def lrw (ex : List Int) (w : Wal) (j n : Nat) : List Fr2 := (List.range (atC w j).length).map fun m => ftot (tmL ex w j m n)
theorem lrw_is : lrw ex w j (atC w (j + 1)).length = rowP (atC w (j + 1)) (atC w j) (ldU ex w j) := rfl
theorem lrw_at (hm : m < (atC w j).length) : dIx (.list ((lrw ex w j n).map cF.enc)) (.int (m : Int)) = some (cF.enc (ftot (tmL ex w j m n))) := by
  have e := rowl_at (l := lrw ex w j n) (n := m) (by unfold lrw; simpa using hm)
  have e2 : (lrw ex w j n).getD m (0, 1) = ftot (tmL ex w j m n) := by unfold lrw; simp [hm]
  rw [e2] at e
  exact e
theorem lrw_dn (h : Stp wide w ex j) (hn : n ≤ (atC w (j + 1)).length) (m : Nat) : Dn (ftot (tmL ex w j m n)) (LC (atC w (j + 1)) * prodL (w.drop (j + 2))) := (tots_dn h.pp.2.2.1 h.pp.2.2.2 fun x hx => by
  obtain ⟨i, hi, rfl⟩ := List.mem_map.mp hx
  exact h.tm (by have := List.mem_range.mp hi; omega)).2
def fL (l : Lds) : List D := l.map (cL cF).enc
theorem fL_at0 (h : Stp wide w ex j) : dIx (.list (fL (lodP ex (w.drop (j + 1))))) (.int 0) = some (.list ((ldU ex w j).map cF.enc)) := by
  have hl : 0 < (lodP ex (w.drop (j + 1))).length := by rw [lod_len, List.length_drop]; have := h.hj; omega
  have e : ldU ex w j = (lodP ex (w.drop (j + 1)))[0] := by
    unfold ldU row0
    simp [hl]
  rw [e]
  show atI (fL (lodP ex (w.drop (j + 1)))) ((0 : Nat) : Int) = _
  unfold fL
  rw [PV.atI_get (by simpa using hl), List.getElem_map]
  rfl
def eL (w : Wal) (ex : List Int) (j : Nat) (s2 : PV.Slot) (row : List D) (s7 s8 : PV.Slot) : PV.Env := [.sh (cW.enc w), .sh (cC.enc ex), s2, .sh (.int j), .sh (.list ((endsP (atC w (j + 1))).map cF.enc)), .sh (.list ((endsP (atC w j)).map cF.enc)), .ow (.list row), s7, s8, .no, .no, .no]
theorem law_n (h : Stp wide w ex j) (s2 : PV.Slot) (h2 : s2 = .ow (.list (fL (lodP ex (w.drop (j + 1))))) ∨ s2 = .sh (.list (fL (lodP ex (w.drop (j + 1)))))) : forL optM (fBody C0 SS G0 (.nm 7) law_loads_B1) (eL w ex j s2 ((lrw ex w j 0).map cF.enc) .no .no) ((List.range (atC w (j + 1)).length).map cNat.enc) (eL w ex j s2 ((lrw ex w j 0).map cF.enc) .no .no) = some (.nx (eL w ex j s2 ((lrw ex w j (atC w (j + 1)).length).map cF.enc) .no .no)) := by
  refine forL_rng (fun n => eL w ex j s2 ((lrw ex w j n).map cF.enc) .no .no) _ fun n hn => ?_
  have hul := h.ul
  have hdl := h.dl
  obtain ⟨wd, wo⟩ := h.whole n
  refine ⟨eL w ex j s2 ((lrw ex w j (n + 1)).map cF.enc) (.sh (.int n)) (.sh (cF.enc (fadd ((ldU ex w j).getD n (0, 1)) (at0 (atC w (j + 1)) n, 1)))), ?_, by rcases h2 with e | e <;> rw [e] <;> simp [eL]⟩
  have g1 := fL_at0 h
  have g2 := rowl_at (l := ldU ex w j) (n := n) (by rw [h.ll]; exact hn)
  have g3 := w_at (w := w) (k := j + 1) h.hj
  have g4 := c_at (c := atC w (j + 1)) hn
  have e2 := SS_law_plus wo
  have pp := h.pp
  have lb := Stp.LCb (atC w (j + 1))
  rw [show ((j + 1 : Nat) : Int) = (j : Int) + 1 by omega] at g3
  rw [show cF.enc (at0 (atC w (j + 1)) n, 1) = .tuple [.int (at0 (atC w (j + 1)) n), .int 1] from rfl] at e2
  have il : dBi .len (.list ((endsP (atC w j)).map cF.enc)) = some (.int (atC w j).length) := by simp [endsP]
  have ok := okR_nat (n := (atC w j).length) (by omega)
  have er := rng_nat (atC w j).length
  have g5 := lends_at (c := atC w (j + 1)) hn
  have sl : ∀ e : E, slotOf e (cF.enc (fadd ((ldU ex w j).getD n (0, 1)) (at0 (atC w (j + 1)) n, 1))) = .sh (cF.enc (fadd ((ldU ex w j).getD n (0, 1)) (at0 (atC w (j + 1)) n, 1))) := fun e => slot_tup
  have cc : ∀ s6 : PV.Slot, (s6 = .ow (.list ((lrw ex w j n).map cF.enc)) ∨ s6 = .sh (.list ((lrw ex w j n).map cF.enc))) → compL optM (oStep C0 SS G0 (.nm 11) .yes (.call id_law_plus (.cons (.ix (.var 6) (.var 11)) (.cons (.call id_law_times (.cons (.var 8) (.cons (.call id_law_part (.cons (.ix (.var 4) (.var 7)) (.cons (.ix (.var 5) (.var 11)) .nil))) .nil))) .nil))) [.sh (cW.enc w), .sh (cC.enc ex), s2, .sh (.int j), .sh (.list ((endsP (atC w (j + 1))).map cF.enc)), .sh (.list ((endsP (atC w j)).map cF.enc)), s6, .sh (.int n), .sh (cF.enc (fadd ((ldU ex w j).getD n (0, 1)) (at0 (atC w (j + 1)) n, 1))), .no, .no, .no]) ((List.range (atC w j).length).map cNat.enc) = some ((lrw ex w j (n + 1)).map cF.enc) := fun s6 h6 => by
    unfold lrw at *
    rw [List.map_map]
    refine compL_all fun m hm => ?_
    have hm := List.mem_range.mp hm
    have q1 := lrw_at (ex := ex) (w := w) (j := j) (m := m) (n := n) hm
    unfold lrw at q1
    have q2 := lends_at (c := atC w j) hm
    have q3 := SS_law_part (a := endAt (atC w (j + 1)) n) (b := endAt (atC w j) m) (part_ok h.ou hn)
    have q4 := SS_law_times (ok_mul wd (part_dn h.ou hn (endAt (atC w j) m)) pp.1 lb.1 pp.2.1 lb.2 (part_sm h.ou hn _))
    rw [fmul_comm] at q4
    have q4 : SS id_law_times [cF.enc (fadd ((ldU ex w j).getD n (0, 1)) (at0 (atC w (j + 1)) n, 1)), cF.enc (partP (endAt (atC w (j + 1)) n) (endAt (atC w j) m))] = some (cF.enc (tmP ex w j m n)) := q4
    have q5 := SS_law_plus (ok_add (lrw_dn (n := n) h (by omega) m) (h.tm (m := m) hn) pp.2.2.1 pp.2.2.1 pp.2.2.2 pp.2.2.2)
    rw [← tmL_succ] at q5
    show oStep _ _ _ _ _ _ _ (.int (m : Int)) = some (some (cF.enc (ftot (tmL ex w j m (n + 1)))))
    generalize cF.enc (ftot (tmL ex w j m (n + 1))) = v at q5 ⊢
    generalize cF.enc (ftot (tmL ex w j m n)) = v0 at q1 q5
    generalize cF.enc (tmP ex w j m n) = v1 at q4 q5
    generalize cF.enc (partP (endAt (atC w (j + 1)) n) (endAt (atC w j) m)) = v2 at q3 q4
    generalize cF.enc (endAt (atC w (j + 1)) n) = v3 at g5 q3
    generalize cF.enc (endAt (atC w j) m) = v4 at q2 q3
    generalize cF.enc (fadd ((ldU ex w j).getD n (0, 1)) (at0 (atC w (j + 1)) n, 1)) = v5 at q4 ⊢
    generalize (endsP (atC w (j + 1))).map cF.enc = y1 at g5 ⊢
    generalize (endsP (atC w j)).map cF.enc = y2 at q2 ⊢
    generalize ((List.range (atC w j).length).map fun m => ftot (tmL ex w j m n)).map cF.enc = y3 at q1 h6
    generalize cW.enc w = x
    generalize cC.enc ex = z
    rcases h6 with rfl | rfl <;> simp [oStep, q1, q2, g5, q3, q4, q5]
  have cc1 := cc _ (.inl rfl)
  have cc2 := cc _ (.inr rfl)
  clear cc
  unfold eL
  generalize cF.enc (fadd ((ldU ex w j).getD n (0, 1)) (at0 (atC w (j + 1)) n, 1)) = v2 at e2 sl cc1 cc2 ⊢
  generalize cF.enc ((ldU ex w j).getD n (0, 1)) = v3 at g2 e2
  generalize at0 (atC w (j + 1)) n = a at g4 e2
  generalize cC.enc (atC w (j + 1)) = y at g3 g4
  generalize (ldU ex w j).map cF.enc = u at g1 g2
  generalize fL (lodP ex (w.drop (j + 1))) = f at g1 h2
  generalize (lrw ex w j (n + 1)).map cF.enc = r1 at cc1 cc2 ⊢
  generalize (lrw ex w j n).map cF.enc = r0 at cc1 cc2 ⊢
  generalize (List.range (atC w j).length).map cNat.enc = r at er cc1 cc2
  generalize ((atC w j).length : Int) = nn at il ok er
  generalize (endsP (atC w (j + 1))).map cF.enc = y1 at cc1 cc2 ⊢
  generalize (endsP (atC w j)).map cF.enc = y2 at il cc1 cc2 ⊢
  generalize cW.enc w = x at g3 cc1 cc2 ⊢
  generalize cC.enc ex = z at cc1 cc2 ⊢
  rcases h2 with rfl | rfl <;> simp [fBody, law_loads_B1, esc, escs, escS, g1, g2, g3, g4, e2, sl, il, ok, er, cc1, cc2]
theorem law_k (h : Stp wide w ex j) : ∃ ρ', fBody C0 SS G0 (.nm 3) law_loads_B0 (.int (j : Int)) [.sh (cW.enc w), .sh (cC.enc ex), .ow (.list (fL (lodP ex (w.drop (j + 1))))), .no, .no, .no, .no, .no, .no, .no, .no, .no] = some (.nx ρ') ∧ msk [.sh (cW.enc w), .sh (cC.enc ex), .ow (.list []), .no, .no, .no, .no, .no, .no, .no, .no, .no] ρ' = [.sh (cW.enc w), .sh (cC.enc ex), .ow (.list (fL (lodP ex (w.drop j)))), .no, .no, .no, .no, .no, .no, .no, .no, .no] := by
  have hdl := h.dl
  have hul := h.ul
  have hj := h.hj
  have kn1 := law_n h _ (.inl rfl)
  have kn2 := law_n h _ (.inr rfl)
  rw [lrw_is] at kn1 kn2
  have g3 := w_at (w := w) (k := j) (by omega)
  have g4 := w_at (w := w) (k := j + 1) hj
  rw [show ((j + 1 : Nat) : Int) = (j : Int) + 1 by omega] at g4
  have e1 := SS_law_ends (c := atC w (j + 1)) (by omega)
  have e2 := SS_law_ends (c := atC w j) (by omega)
  have il : dBi .len (.list ((endsP (atC w (j + 1))).map cF.enc)) = some (.int (atC w (j + 1)).length) := by simp [endsP]
  have ok := okR_nat (n := (atC w (j + 1)).length) (by omega)
  have er := rng_nat (atC w (j + 1)).length
  have it : ∀ ys : List D, items (.list ys) = some ys := fun _ => rfl
  have cc : ∀ s2 s6 : PV.Slot, compL optM (oStep C0 SS G0 (.nm 10) .yes (.tup (.cons (.int 0) (.cons (.int 1) .nil))) [.sh (cW.enc w), .sh (cC.enc ex), s2, .sh (.int j), .sh (.list ((endsP (atC w (j + 1))).map cF.enc)), .sh (.list ((endsP (atC w j)).map cF.enc)), s6, .no, .no, .no, .no, .no]) ((endsP (atC w j)).map cF.enc) = some ((lrw ex w j 0).map cF.enc) := fun s2 s6 => by
    have e : (lrw ex w j 0).map cF.enc = (endsP (atC w j)).map fun _ => PyData.tuple [.int 0, .int 1] := by
      unfold lrw endsP
      rw [List.map_map, List.map_map]
      rfl
    rw [e]
    refine compL_all fun m _ => ?_
    generalize cF.enc m = v
    generalize (endsP (atC w (j + 1))).map cF.enc = y1
    generalize (endsP (atC w j)).map cF.enc = y2
    generalize cW.enc w = x
    generalize cC.enc ex = z
    simp [oStep]
  have hlen : (fL (lodP ex (w.drop (j + 1)))).length < LINE := by
    unfold fL
    rw [List.length_map, lod_len, List.length_drop]
    have := h.ok.len
    unfold LINE
    omega
  have en : fL (lodP ex (w.drop j)) = .list ((rowP (atC w (j + 1)) (atC w j) (ldU ex w j)).map cF.enc) :: fL (lodP ex (w.drop (j + 1))) := by
    rw [h.next]
    rfl
  rw [en]
  unfold eL at kn1 kn2
  generalize (rowP (atC w (j + 1)) (atC w j) (ldU ex w j)).map cF.enc = rl at kn1 kn2 ⊢
  generalize (lrw ex w j 0).map cF.enc = r0 at cc kn1 kn2
  generalize (List.range (atC w (j + 1)).length).map cNat.enc = r at er kn1 kn2
  generalize ((atC w (j + 1)).length : Int) = nn at il ok er
  generalize (endsP (atC w (j + 1))).map cF.enc = y1 at e1 il cc kn1 kn2
  generalize (endsP (atC w j)).map cF.enc = y2 at e2 cc kn1 kn2
  generalize cC.enc (atC w (j + 1)) = c1 at g4 e1
  generalize cC.enc (atC w j) = c2' at g3 e2
  generalize fL (lodP ex (w.drop (j + 1))) = f at hlen kn1 kn2 ⊢
  generalize cW.enc w = x at g3 g4 cc kn1 kn2 ⊢
  generalize cC.enc ex = z at cc kn1 kn2 ⊢
  have hlen2 : 1 + f.length ≤ LINE := by omega
  refine ⟨[.sh x, .sh z, .ow (.list (.list rl :: f)), .sh (.int j), .sh (.list y1), .sh (.list y2), .sh (.list rl), .no, .no, .no, .no, .no], ?_, by simp⟩
  simp [fBody, law_loads_B0, esc, escs, escS, escF, setAll, g3, g4, e1, e2, il, ok, er, it, cc, kn1, kn2, hlen2]
end
theorem r_law_loads : ∀ ds d, SS id_law_loads ds = some d → run optM C0 SS G0 n_law_loads.length b_law_loads ds = some d := by
  intro ds d h
  obtain ⟨⟨w, ex⟩, h1, hp, rfl⟩ := spec_some (show S_press ds = some d from h)
  obtain rfl := A2_some h1
  simp only [Bool.and_eq_true] at hp
  obtain ⟨wide, hw⟩ := okW_it hp.1
  obtain ⟨hx, _⟩ := okX_it hp.2
  have hl := hw.len
  refine run_of ?_
  have kf := forL_idx (g := fBody C0 SS G0 (.nm 3) law_loads_B0) (ρ0 := [.sh (cW.enc w), .sh (cC.enc ex), .ow (.list []), .no, .no, .no, .no, .no, .no, .no, .no, .no]) cNat.enc
    (fun i => [.sh (cW.enc w), .sh (cC.enc ex), .ow (.list (fL (lodP ex (w.drop (w.length - 1 - i))))), .no, .no, .no, .no, .no, .no, .no, .no, .no]) (List.range (w.length - 1)).reverse 0 fun i hi => by
      rw [List.length_reverse, List.length_range] at hi
      rw [List.getElem_reverse, List.getElem_range, Nat.zero_add, List.length_range]
      have st : Stp wide w ex (w.length - 2 - i) := ⟨hw, by omega, hx⟩
      have := law_k st
      rw [show w.length - 2 - i + 1 = w.length - 1 - i by omega] at this
      rw [show w.length - 1 - (i + 1) = w.length - 2 - i by omega, show w.length - 1 - 1 - i = w.length - 2 - i by omega]
      exact this
  have kf2 : ∀ f : List D, forL optM (fBody C0 SS G0 (.nm 3) law_loads_B0) [.sh (cW.enc w), .sh (cC.enc ex), .ow (.list f), .no, .no, .no, .no, .no, .no, .no, .no, .no] ((List.range (w.length - 1)).reverse.map cNat.enc) [.sh (cW.enc w), .sh (cC.enc ex), .ow (.list (fL (lodP ex (w.drop (w.length - 1 - 0))))), .no, .no, .no, .no, .no, .no, .no, .no, .no] = some (.nx [.sh (cW.enc w), .sh (cC.enc ex), .ow (.list (fL (lodP ex w))), .no, .no, .no, .no, .no, .no, .no, .no, .no]) := fun f => by
    have e : ∀ (ρ : PV.Env) (xs : List D), forL optM (fBody C0 SS G0 (.nm 3) law_loads_B0) [.sh (cW.enc w), .sh (cC.enc ex), .ow (.list f), .no, .no, .no, .no, .no, .no, .no, .no, .no] xs ρ = forL optM (fBody C0 SS G0 (.nm 3) law_loads_B0) [.sh (cW.enc w), .sh (cC.enc ex), .ow (.list []), .no, .no, .no, .no, .no, .no, .no, .no, .no] xs ρ := fun ρ xs => by
      have em : msk [.sh (cW.enc w), .sh (cC.enc ex), .ow (.list f), .no, .no, .no, .no, .no, .no, .no, .no, .no] = msk [.sh (cW.enc w), .sh (cC.enc ex), .ow (.list []), .no, .no, .no, .no, .no, .no, .no, .no, .no] := funext fun ρ => by
        unfold msk
        refine List.mapIdx_eq_mapIdx_iff.mpr fun i hi => ?_
        match i with
        | 0 => rfl
        | 1 => rfl
        | 2 => rfl
        | i + 3 => rfl
      induction xs generalizing ρ with
      | nil => unfold forL; rfl
      | cons x xs ih =>
        unfold forL
        congr 1
        funext f2
        cases f2 with
        | nx ρ2 => rw [em]; exact ih _
        | rt d => rfl
        | bk ρ2 => rw [em]
    rw [e]
    have := kf
    rw [Nat.zero_add, List.length_reverse, List.length_range, Nat.sub_self, List.drop_zero] at this
    exact this
  rw [Nat.sub_zero, lod_last ex w hl.1] at kf2
  have il := w_len w
  have ok : okR 0 ((w.length : Int) - 1) = true := by unfold okR LINE; exact decide_eq_true (by omega)
  have er : rng 0 ((w.length : Int) - 1) = (List.range (w.length - 1)).map cNat.enc := by
    rw [show (w.length : Int) - 1 = ((w.length - 1 : Nat) : Int) by omega]
    exact rng_nat _
  have rv : dRev (.list ((List.range (w.length - 1)).map cNat.enc)) = some (.list ((List.range (w.length - 1)).reverse.map cNat.enc)) := by
    show some (PyData.list ((List.range (w.length - 1)).map cNat.enc).reverse) = _
    rw [List.map_reverse]
  have it : items (cC.enc ex) = some (ex.map cInt.enc) := rfl
  have ei : ∀ ys : List D, items (.list ys) = some ys := fun _ => rfl
  have cc : ∀ s2 : PV.Slot, compL optM (oStep C0 SS G0 (.nm 9) .yes (.tup (.cons (.var 9) (.cons (.int 1) .nil))) [.sh (cW.enc w), .sh (cC.enc ex), s2, .no, .no, .no, .no, .no, .no, .no, .no, .no]) (ex.map cInt.enc) = some ((ex.map fun x => ((x, 1) : Fr2)).map cF.enc) := fun s2 => by
    rw [List.map_map]
    refine compL_all fun x _ => ?_
    show oStep _ _ _ _ _ _ _ (.int x) = some (some (.tuple [.int x, .int 1]))
    generalize cC.enc ex = y
    generalize cW.enc w = z
    simp [oStep]
  have c6 : ∀ s2 : PV.Slot, compL optM (oStep C0 SS G0 (.nm 6) .yes (.bi .tuple (.var 6)) [.sh (cW.enc w), .sh (cC.enc ex), s2, .no, .no, .no, .no, .no, .no, .no, .no, .no]) (fL (lodP ex w)) = some (fD (lodP ex w)) := fun s2 => by
    unfold fL fD
    refine compL_all fun l _ => ?_
    have et : dBi .tuple ((cL cF).enc l) = some ((cT cF).enc l) := rfl
    generalize (cL cF).enc l = a at et ⊢
    generalize (cT cF).enc l = b at et ⊢
    generalize cC.enc ex = y
    generalize cW.enc w = z
    simp [oStep, et]
  have e0 : fL [ex.map fun x => ((x, 1) : Fr2)] = [.list ((ex.map fun x => ((x, 1) : Fr2)).map cF.enc)] := rfl
  rw [e0] at kf2
  show _ = some (Fl.rt (.tuple (fD (lodP ex w))))
  generalize fD (lodP ex w) = v at c6 ⊢
  generalize fL (lodP ex w) = v' at kf2 c6
  generalize (ex.map fun x => ((x, 1) : Fr2)).map cF.enc = u at cc kf2
  generalize (List.range (w.length - 1)).reverse.map cNat.enc = r at rv kf2
  generalize (List.range (w.length - 1)).map cNat.enc = r2 at er rv
  generalize (w.length : Int) = nn at il ok er
  generalize ex.map cInt.enc = q at it cc
  generalize cC.enc ex = y at it cc kf2 c6 ⊢
  generalize cW.enc w = x at il cc kf2 c6 ⊢
  unfold b_law_loads
  simp [esc, escs, escS, escF, il, ok, er, rv, it, ei, cc, c6, kf2]
section
variable {wide : Int} {w : Wal}
theorem last_is (h : 1 ≤ w.length) : w.getLastD [] = atC w (w.length - 1) := by
  have e : w.getLastD [] = (w.getLast?).getD [] := by simp [List.getLastD_eq_getLast?]
  rw [e, List.getLast?_eq_getElem?]
  rfl
theorem w_last (h : WOk wide w) : dIx (cW.enc w) (.int (-1)) = some (cC.enc (w.getLastD [])) := by
  obtain ⟨ys, x, e⟩ : ∃ ys x, w = ys ++ [x] := by
    rcases nil_or_app w with e | e
    · have := h.len
      rw [e] at this
      simp at this
    · exact e
  subst e
  have e2 : (ys ++ [x]).getLastD [] = x := by simp
  rw [e2, e_W, List.map_append]
  exact at_last
theorem WOk.ll (h : WOk wide w) : 1 ≤ (w.getLastD []).length ∧ (w.getLastD []).length ≤ 8 := by
  have := h.len
  rw [last_is this.1]
  exact h.cl (by omega)
theorem zer_mul {n : Nat} (h : 1 ≤ n ∧ n ≤ 8) : dBin .mul (.tuple [.int 0]) (.int n) = some (cC.enc (List.replicate n 0)) := by
  rcases (show n = 1 ∨ n = 2 ∨ n = 3 ∨ n = 4 ∨ n = 5 ∨ n = 6 ∨ n = 7 ∨ n = 8 by omega) with rfl | rfl | rfl | rfl | rfl | rfl | rfl | rfl <;> rfl
theorem zer_ok (w : Wal) : okX w (zer w) = true := by
  simp only [okX, Bool.and_eq_true, decide_eq_true_eq, List.all_eq_true]
  refine ⟨by unfold zer; simp, fun x hx => ?_⟩
  have := List.eq_of_mem_replicate hx
  omega
end
theorem r_loads_of : ∀ ds d, SS id_loads_of ds = some d → run optM C0 SS G0 n_loads_of.length b_loads_of ds = some d := by
  intro ds d h
  obtain ⟨w, h1, hp, rfl⟩ := spec_some (show S_loads ds = some d from h)
  obtain rfl := A1_some h1
  obtain ⟨wide, hw⟩ := okW_it hp
  refine run_of ?_
  have g := w_last hw
  have il := c_len (w.getLastD [])
  have em := zer_mul hw.ll
  have e := SS_pressed hw (zer_ok w)
  show _ = some (Fl.rt (cLd.enc (lodP (zer w) w)))
  unfold zer at e ⊢
  generalize cLd.enc (lodP (List.replicate (w.getLastD []).length 0) w) = v at e ⊢
  generalize cC.enc (List.replicate (w.getLastD []).length 0) = u at em e
  generalize ((w.getLastD []).length : Int) = nn at il em
  generalize cC.enc (w.getLastD []) = t at g il
  generalize cW.enc w = x at g e ⊢
  unfold b_loads_of
  simp [esc, escs, g, il, em, e]
theorem SS_loads_of {wide : Int} {w : Wal} (h : WOk wide w) : SS id_loads_of [cW.enc w] = some (cLd.enc (lod0 w)) := by
  have e := spec_of (p := okW) (f := fun w => cLd.enc (lod0 w)) (A1_enc cW w) (okW_of h)
  exact e
end PW

set_option maxHeartbeats 4000000
/-! What bears what: the heaviest, who is crushed, what the ground bears, reckoned. -/
namespace PW
open PySem PyProof.Rows L2 PV
section
variable {wide : Int} {w : Wal} {k n : Nat} {ex : List Int}
theorem ld_dn (h : WOk wide w) (hk : k < w.length) (n : Nat) : Dn (ldAt (lodP ex w) k n) (prodL (w.drop (k + 1))) := by
  unfold ldAt
  rw [lod_drop ex w k hk]
  have := row0_dn (ex := ex) (w.drop k) (h.drop hk)
  rw [List.tail_drop] at this
  exact getD_dn this n
theorem pd (h : WOk wide w) (hk : k < w.length) : 0 < prodL (w.drop (k + 1)) ∧ prodL (w.drop (k + 1)) ≤ BIG := by
  have h1 := prodL_pos (w.drop (k + 1))
  have h2 := big_of (h.drop hk)
  rw [drop_at hk] at h2
  have h3 := prodL_tail (atC w k) (w.drop (k + 1))
  omega
theorem ld_sm (h : WOk wide w) (hk : k < w.length) (n : Nat) : PV.small64 (ldAt (lodP ex w) k n).2 = true := (ld_dn h hk n).sm (pd h hk).1 (pd h hk).2
theorem ld_len (h : WOk wide w) (hx : okX w ex = true) (hk : k < w.length) : ((lodP ex w).getD k []).length = (atC w k).length := by
  rw [lod_drop ex w k hk, row0_len (w.drop k) (h.drop hk) (by rw [last_drop w k hk]; exact (okX_it hx).1), drop_at hk]
  rfl
theorem ld_at (hk : k < w.length) : dIx (cLd.enc (lodP ex w)) (.int (k : Int)) = some ((cT cF).enc ((lodP ex w).getD k [])) := by
  have hl : k < (lodP ex w).length := by rw [lod_len]; exact hk
  have : (lodP ex w).getD k [] = (lodP ex w)[k] := by simp [hl]
  rw [this, e_Ld]
  show atI _ _ = _
  rw [PV.atI_get (by simpa using hl), List.getElem_map]
theorem ldn_at (h : WOk wide w) (hx : okX w ex = true) (hk : k < w.length) (hn : n < (atC w k).length) : dIx ((cT cF).enc ((lodP ex w).getD k [])) (.int (n : Int)) = some (cF.enc (ldAt (lodP ex w) k n)) := row_at (by rw [ld_len h hx hk]; exact hn)
theorem ld_lenD (w : Wal) (ex : List Int) : dBi .len (cLd.enc (lodP ex w)) = some (.int w.length) := by
  have : dBi .len (cLd.enc (lodP ex w)) = some (.int (lodP ex w).length) := by simp [e_Ld]
  rw [this, lod_len]
theorem ldk_len (h : WOk wide w) (hx : okX w ex = true) (hk : k < w.length) : dBi .len ((cT cF).enc ((lodP ex w).getD k [])) = some (.int (atC w k).length) := by
  have : dBi .len ((cT cF).enc ((lodP ex w).getD k [])) = some (.int ((lodP ex w).getD k []).length) := by
    show some (PyData.int (((lodP ex w).getD k []).map cF.enc).length) = _
    rw [List.length_map]
  rw [this, ld_len h hx hk]
structure HI (b : Option (Fr2 × Nat × Nat)) : Prop where
  it : ∀ z, b = some z → PV.small64 z.1.2 = true
def rowK (w : Wal) (k : Nat) : List (Nat × Nat) := (List.range (atC w k).length).map fun n => (k, n)
theorem fold_pos (w : Wal) (l : Lds) : ∀ (xs : List Nat) (b : Option (Fr2 × Nat × Nat)), (xs.flatMap (rowK w)).foldl (hStep l) b = xs.foldl (fun b k => (rowK w k).foldl (hStep l) b) b
  | [], b => rfl
  | x :: xs, b => by rw [List.flatMap_cons, List.foldl_append, fold_pos w l xs]; rfl
theorem HI.step (h : WOk wide w) (hk : k < w.length) (n : Nat) {b : Option (Fr2 × Nat × Nat)} (hb : HI b) : HI (hStep (lod0 w) b (k, n)) := by
  have s := ld_sm (ex := zer w) h hk n
  cases b with
  | none => exact ⟨fun z hz => by obtain rfl := Option.some.inj hz; exact s⟩
  | some q =>
    refine ⟨fun z hz => ?_⟩
    have hz : (if flt q.1 (ldAt (lod0 w) k n) = true then some (ldAt (lod0 w) k n, k, n) else some q) = some z := hz
    split at hz
    · obtain rfl := Option.some.inj hz; exact s
    · obtain rfl := Option.some.inj hz; exact hb.it _ rfl
/-- one step of the search for the heaviest: what is kept -/
theorem HI.fold (h : WOk wide w) (hk : k < w.length) : ∀ (xs : List Nat) (b : Option (Fr2 × Nat × Nat)), HI b → HI ((xs.map fun n => (k, n)).foldl (hStep (lod0 w)) b)
  | [], b, hb => hb
  | x :: xs, b, hb => HI.fold h hk xs _ (hb.step h hk x)
end
def eH (w : Wal) (b : Option (Fr2 × Nat × Nat)) (s3 s4 : PV.Slot) : PV.Env := [.sh (cW.enc w), .sh (hvD b), .sh (cLd.enc (lod0 w)), s3, s4]
theorem r_heaviest_load : ∀ ds d, SS id_heaviest_load ds = some d → run optM C0 SS G0 n_heaviest_load.length b_heaviest_load ds = some d := by
  intro ds d h
  obtain ⟨w, h1, hp, rfl⟩ := spec_some (show S_heavy ds = some d from h)
  obtain rfl := A1_some h1
  obtain ⟨wide, hw⟩ := okW_it hp
  have hl := hw.len
  have hx := zer_ok w
  refine run_of ?_
  have inner : ∀ (k : Nat) (b : Option (Fr2 × Nat × Nat)), k < w.length → HI b → forL optM (fBody C0 SS G0 (.nm 4) heaviest_load_B1) (eH w b (.sh (.int k)) .no) ((List.range (atC w k).length).map cNat.enc) (eH w b (.sh (.int k)) .no) = some (.nx (eH w ((rowK w k).foldl (hStep (lod0 w)) b) (.sh (.int k)) .no)) := fun k b hk hb => by
    have key := forL_fold (g := fBody C0 SS G0 (.nm 4) heaviest_load_B1) (ρ0 := eH w b (.sh (.int k)) .no) (fun z : Nat × Nat => .int z.2) (fun b => eH w b (.sh (.int k)) .no) (hStep (lod0 w)) (fun b xs => HI b ∧ ∀ z ∈ xs, z.1 = k ∧ z.2 < (atC w k).length) ?_ (rowK w k) b ⟨hb, fun z hz => by
      obtain ⟨n, hn, rfl⟩ := List.mem_map.mp hz
      exact ⟨rfl, List.mem_range.mp hn⟩⟩
    · have e : (rowK w k).map (fun z : Nat × Nat => PyData.int z.2) = (List.range (atC w k).length).map cNat.enc := by unfold rowK; rw [List.map_map]; rfl
      rw [e] at key
      exact key
    · rintro b ⟨k', n⟩ xs ⟨hb, hz⟩
      obtain ⟨rfl, hn⟩ := hz (k', n) (by simp)
      simp only at hn
      have g1 := ld_at (ex := zer w) hk
      have g2 := ldn_at hw hx hk hn
      have s := ld_sm (ex := zer w) hw hk n
      refine ⟨⟨eH w (hStep (lod0 w) b (k', n)) (.sh (.int k')) (.sh (.int n)), ?_, by simp [eH]⟩, hb.step hw hk n, fun z hz' => hz z (by simp [hz'])⟩
      have g1 : dIx (cLd.enc (lod0 w)) (.int (k' : Int)) = some ((cT cF).enc ((lod0 w).getD k' [])) := g1
      have g2 : dIx ((cT cF).enc ((lod0 w).getD k' [])) (.int (n : Int)) = some (cF.enc (ldAt (lod0 w) k' n)) := g2
      cases b with
      | none =>
        have eb : hvD (hStep (lod0 w) none (k', n)) = .tuple [cF.enc (ldAt (lod0 w) k' n), .int k', .int n] := rfl
        unfold eH
        rw [eb, show hvD none = .none from rfl]
        generalize cF.enc (ldAt (lod0 w) k' n) = v at g2 ⊢
        generalize (cT cF).enc ((lod0 w).getD k' []) = u at g1 g2
        generalize cLd.enc (lod0 w) = l at g1 ⊢
        generalize cW.enc w = x
        simp [fBody, heaviest_load_B1, esc, escs, isN, g1, g2]
      | some q =>
        have hq := hb.it q rfl
        have e3 := SS_is_less (p := q.1) (q := ldAt (lod0 w) k' n) (by
          have s : PV.small64 (ldAt (lod0 w) k' n).2 = true := s
          unfold okS; rw [s, hq]; rfl)
        have eb : hStep (lod0 w) (some q) (k', n) = if flt q.1 (ldAt (lod0 w) k' n) = true then some (ldAt (lod0 w) k' n, k', n) else some q := rfl
        unfold eH
        rw [eb, show hvD (some q) = .tuple [cF.enc q.1, .int q.2.1, .int q.2.2] from rfl]
        cases hc : flt q.1 (ldAt (lod0 w) k' n) with
        | true =>
          rw [hc] at e3
          rw [if_pos rfl, show hvD (some (ldAt (lod0 w) k' n, k', n)) = .tuple [cF.enc (ldAt (lod0 w) k' n), .int k', .int n] from rfl]
          generalize cF.enc (ldAt (lod0 w) k' n) = v at g2 e3 ⊢
          generalize cF.enc q.1 = v1 at e3 ⊢
          generalize (cT cF).enc ((lod0 w).getD k' []) = u at g1 g2
          generalize cLd.enc (lod0 w) = l at g1 ⊢
          generalize cW.enc w = x
          simp [fBody, heaviest_load_B1, esc, escs, isN, g1, g2, e3]
        | false =>
          rw [hc] at e3
          rw [if_neg (by simp), show hvD (some q) = .tuple [cF.enc q.1, .int q.2.1, .int q.2.2] from rfl]
          generalize cF.enc (ldAt (lod0 w) k' n) = v at g2 e3 ⊢
          generalize cF.enc q.1 = v1 at e3 ⊢
          generalize (cT cF).enc ((lod0 w).getD k' []) = u at g1 g2
          generalize cLd.enc (lod0 w) = l at g1 ⊢
          generalize cW.enc w = x
          simp [fBody, heaviest_load_B1, esc, escs, isN, g1, g2, e3]
  have key := forL_fold (g := fBody C0 SS G0 (.nm 3) heaviest_load_B0) (ρ0 := eH w none .no .no) cNat.enc (fun b => eH w b .no .no) (fun b k => (rowK w k).foldl (hStep (lod0 w)) b) (fun b xs => HI b ∧ ∀ k ∈ xs, k < w.length) ?_ (List.range w.length) none ⟨⟨fun z hz => by cases hz⟩, fun k hk => List.mem_range.mp hk⟩
  · have e := fold_pos w (lod0 w) (List.range w.length) none
    rw [← e] at key
    have e1 := SS_loads_of hw
    have il : dBi .len (cLd.enc (lod0 w)) = some (.int w.length) := ld_lenD w (zer w)
    have ok := okR_nat (n := w.length) (by omega)
    have er := rng_nat w.length
    have sl : ∀ e : E, slotOf e (cLd.enc (lod0 w)) = .sh (cLd.enc (lod0 w)) := fun e => slot_tup
    show _ = some (Fl.rt (hvD (hvP w)))
    unfold hvP posW
    have key : forL optM (fBody C0 SS G0 (.nm 3) heaviest_load_B0) (eH w none .no .no) ((List.range w.length).map cNat.enc) (eH w none .no .no) = some (.nx (eH w (((List.range w.length).flatMap fun k => (List.range (atC w k).length).map fun n => (k, n)).foldl (hStep (lod0 w)) none) .no .no)) := key
    generalize ((List.range w.length).flatMap fun k => (List.range (atC w k).length).map fun n => (k, n)).foldl (hStep (lod0 w)) none = z at key ⊢
    unfold eH at key
    rw [show hvD none = .none from rfl] at key
    generalize cLd.enc (lod0 w) = l at e1 il sl key
    generalize hvD z = d at key ⊢
    generalize (List.range w.length).map cNat.enc = r at er key
    generalize (w.length : Int) = nn at il ok er
    generalize cW.enc w = x at e1 key ⊢
    unfold b_heaviest_load
    simp [esc, escs, escF, e1, sl, il, ok, er, key]
  · rintro b k xs ⟨hb, hk⟩
    have hk1 := hk k (by simp)
    have hc := hw.cl hk1
    have i1 := inner k b hk1 hb
    refine ⟨⟨eH w ((rowK w k).foldl (hStep (lod0 w)) b) (.sh (.int k)) .no, ?_, by simp [eH]⟩, HI.fold hw hk1 _ b hb, fun j hj => hk j (by simp [hj])⟩
    have g1 : dIx (cLd.enc (lod0 w)) (.int (k : Int)) = some ((cT cF).enc ((lod0 w).getD k [])) := ld_at (ex := zer w) hk1
    have il : dBi .len ((cT cF).enc ((lod0 w).getD k [])) = some (.int (atC w k).length) := ldk_len hw hx hk1
    have ok := okR_nat (n := (atC w k).length) (by omega)
    have er := rng_nat (atC w k).length
    generalize (rowK w k).foldl (hStep (lod0 w)) b = z at i1 ⊢
    unfold eH at i1 ⊢
    generalize hvD z = d at i1 ⊢
    generalize hvD b = d2 at i1 ⊢
    generalize (cT cF).enc ((lod0 w).getD k []) = u at g1 il
    generalize (List.range (atC w k).length).map cNat.enc = r at er i1
    generalize ((atC w k).length : Int) = nn at il ok er
    generalize cLd.enc (lod0 w) = l at g1 i1 ⊢
    generalize cW.enc w = x at i1 ⊢
    simp [fBody, heaviest_load_B0, esc, escs, escF, g1, il, ok, er, i1]
theorem SS_heaviest_load {wide : Int} {w : Wal} (h : WOk wide w) : SS id_heaviest_load [cW.enc w] = some (hvD (hvP w)) := by
  have e := spec_of (p := okW) (f := fun w => hvD (hvP w)) (A1_enc cW w) (okW_of h)
  exact e
/-! who is crushed -/
section
variable {wide : Int} {w : Wal} {k n : Nat} {s : Int}
def crU (w : Wal) (s : Int) (k : Nat) : List (Nat × Nat) := ((List.range k).flatMap (rowK w)).filter (crB w s)
theorem crU_succ : crU w s (k + 1) = crU w s k ++ (rowK w k).filter (crB w s) := by
  unfold crU
  rw [List.range_succ, List.flatMap_append, List.filter_append]
  simp
theorem crU_len (h : WOk wide w) (hk : k ≤ w.length) : (crU w s k).length ≤ 8 * k := by
  induction k with
  | zero => simp [crU]
  | succ k ih =>
    rw [crU_succ, List.length_append]
    have h1 := ih (by omega)
    have h2 := List.length_filter_le (crB w s) (rowK w k)
    have h3 := h.cl (k := k) (by omega)
    have h4 : (rowK w k).length = (atC w k).length := by unfold rowK; simp
    omega
theorem cr_comp (h : WOk wide w) (hk : k < w.length) (hs : 0 ≤ s ∧ s ≤ 100) {id : Nat} (hid : ∀ p q : Fr2, okS p q = true → SS id [cF.enc p, cF.enc q] = some (.bool (flt p q))) (s3 : PV.Slot) : compL optM (oStep C0 SS G0 (.nm 5) (.call id (.cons (.tup (.cons (.bin .mul (.var 1) (.ix (.ix (.var 0) (.var 4)) (.var 5))) (.cons (.int 1) .nil))) (.cons (.ix (.ix (.var 2) (.var 4)) (.var 5)) .nil))) (.tup (.cons (.var 4) (.cons (.var 5) .nil))) [.sh (cW.enc w), .sh (.int s), .sh (cLd.enc (lod0 w)), s3, .sh (.int k), .no]) ((List.range (atC w k).length).map cNat.enc) = some (((rowK w k).filter (crB w s)).map cPr.enc) := by
  have e : ((rowK w k).filter (crB w s)).map cPr.enc = ((List.range (atC w k).length).filter fun n => crB w s (k, n)).map fun n : Nat => PyData.tuple [.int k, .int n] := by
    unfold rowK
    rw [List.filter_map, List.map_map]
    rfl
  rw [e]
  refine compL_fil (p := fun n => crB w s (k, n)) fun n hn => ?_
  have hn := List.mem_range.mp hn
  have hx := zer_ok w
  have g1 : dIx (cLd.enc (lod0 w)) (.int (k : Int)) = some ((cT cF).enc ((lod0 w).getD k [])) := ld_at (ex := zer w) hk
  have g2 : dIx ((cT cF).enc ((lod0 w).getD k [])) (.int (n : Int)) = some (cF.enc (ldAt (lod0 w) k n)) := ldn_at h hx hk hn
  have g3 := w_at (w := w) hk
  have g4 := c_at (c := atC w k) hn
  have sm : PV.small64 s = true := sm_abs (by omega)
  have q : PV.small64 (ldAt (lod0 w) k n).2 = true := ld_sm (ex := zer w) h hk n
  have e1 := hid (s * at0 (atC w k) n, 1) (ldAt (lod0 w) k n) (by unfold okS; rw [q]; rfl)
  rw [show cF.enc (s * at0 (atC w k) n, 1) = .tuple [.int (s * at0 (atC w k) n), .int 1] from rfl] at e1
  have eb : crB w s (k, n) = flt (s * at0 (atC w k) n, 1) (ldAt (lod0 w) k n) := rfl
  rw [eb]
  show oStep _ _ _ _ _ _ _ (.int (n : Int)) = some (if flt (s * at0 (atC w k) n, 1) (ldAt (lod0 w) k n) = true then some (.tuple [.int k, .int n]) else none)
  generalize flt (s * at0 (atC w k) n, 1) (ldAt (lod0 w) k n) = b at e1 ⊢
  generalize at0 (atC w k) n = a at g4 e1
  generalize cF.enc (ldAt (lod0 w) k n) = v at g2 e1
  generalize (cT cF).enc ((lod0 w).getD k []) = u at g1 g2
  generalize cC.enc (atC w k) = y at g3 g4
  generalize cLd.enc (lod0 w) = l at g1 ⊢
  generalize cW.enc w = x at g3 ⊢
  cases b <;> simp [oStep, g1, g2, g3, g4, sm, e1]
end
theorem r_crushed : ∀ ds d, SS id_crushed ds = some d → run optM C0 SS G0 n_crushed.length b_crushed ds = some d := by
  intro ds d h
  obtain ⟨⟨w, s⟩, h1, hp, rfl⟩ := spec_some (show S_crush ds = some d from h)
  obtain rfl := A2_some h1
  simp only [Bool.and_eq_true, decide_eq_true_eq] at hp
  obtain ⟨wide, hw⟩ := okW_it hp.1
  have hl := hw.len
  refine run_of ?_
  have kf := forL_rng (g := fBody C0 SS G0 (.nm 4) crushed_B0) (ρ0 := [.sh (cW.enc w), .sh (.int s), .sh (cLd.enc (lod0 w)), .ow (.list []), .no, .no]) (fun k => [.sh (cW.enc w), .sh (.int s), .sh (cLd.enc (lod0 w)), .ow (.list ((crU w s k).map cPr.enc)), .no, .no]) w.length fun k hk => by
    have cc := cr_comp hw hk hp.2 (id := id_is_less) (fun p q h => SS_is_less h)
    have g3 := w_at (w := w) hk
    have hc := hw.cl hk
    have il := c_len (atC w k)
    have ok := okR_nat (n := (atC w k).length) (by omega)
    have er := rng_nat (atC w k).length
    have hlen : ((crU w s k).map cPr.enc).length + (((rowK w k).filter (crB w s)).map cPr.enc).length ≤ LINE := by
      have h1 := crU_len (s := s) hw (show k + 1 ≤ w.length by omega)
      rw [crU_succ, List.length_append] at h1
      simp only [List.length_map]
      unfold LINE
      omega
    refine ⟨[.sh (cW.enc w), .sh (.int s), .sh (cLd.enc (lod0 w)), .ow (.list ((crU w s (k + 1)).map cPr.enc)), .sh (.int k), .no], ?_, by simp⟩
    rw [crU_succ, List.map_append]
    generalize ((rowK w k).filter (crB w s)).map cPr.enc = z at cc hlen ⊢
    generalize (crU w s k).map cPr.enc = y at hlen ⊢
    generalize (List.range (atC w k).length).map cNat.enc = r at er cc
    generalize ((atC w k).length : Int) = nn at il ok er
    generalize cC.enc (atC w k) = c at g3 il
    generalize cLd.enc (lod0 w) = l at cc ⊢
    generalize cW.enc w = x at g3 cc ⊢
    simp [fBody, crushed_B0, esc, escs, escS, dExt, g3, il, ok, er, cc, hlen]
  have e1 := SS_loads_of hw
  have il := w_len w
  have ok := okR_nat (n := w.length) (by omega)
  have er := rng_nat w.length
  have sl : ∀ e : E, slotOf e (cLd.enc (lod0 w)) = .sh (cLd.enc (lod0 w)) := fun e => slot_tup
  have ez : (crU w s 0).map cPr.enc = [] := rfl
  rw [ez] at kf
  show _ = some (Fl.rt (.tuple ((crU w s w.length).map cPr.enc)))
  generalize (crU w s w.length).map cPr.enc = z at kf ⊢
  generalize (List.range w.length).map cNat.enc = r at er kf
  generalize (w.length : Int) = nn at il ok er
  generalize cLd.enc (lod0 w) = l at e1 sl kf
  generalize cW.enc w = x at e1 il kf ⊢
  unfold b_crushed
  simp [esc, escs, escF, e1, sl, il, ok, er, kf]
theorem r_law_crushed : ∀ ds d, SS id_law_crushed ds = some d → run optM C0 SS G0 n_law_crushed.length b_law_crushed ds = some d := by
  intro ds d h
  obtain ⟨⟨w, s⟩, h1, hp, rfl⟩ := spec_some (show S_crush ds = some d from h)
  obtain rfl := A2_some h1
  simp only [Bool.and_eq_true, decide_eq_true_eq] at hp
  obtain ⟨wide, hw⟩ := okW_it hp.1
  have hl := hw.len
  refine run_of ?_
  have kf := forL_rng (g := fBody C0 SS G0 (.nm 4) law_crushed_B0) (ρ0 := [.sh (cW.enc w), .sh (.int s), .sh (cLd.enc (lod0 w)), .ow (.list []), .no, .no]) (fun k => [.sh (cW.enc w), .sh (.int s), .sh (cLd.enc (lod0 w)), .ow (.list ((crU w s k).map cPr.enc)), .no, .no]) w.length fun k hk => by
    have cc := cr_comp hw hk hp.2 (id := id_law_less) (fun p q h => SS_law_less h)
    have g3 := w_at (w := w) hk
    have hc := hw.cl hk
    have il := c_len (atC w k)
    have ok := okR_nat (n := (atC w k).length) (by omega)
    have er := rng_nat (atC w k).length
    have hlen : ((crU w s k).map cPr.enc).length + (((rowK w k).filter (crB w s)).map cPr.enc).length ≤ LINE := by
      have h1 := crU_len (s := s) hw (show k + 1 ≤ w.length by omega)
      rw [crU_succ, List.length_append] at h1
      simp only [List.length_map]
      unfold LINE
      omega
    refine ⟨[.sh (cW.enc w), .sh (.int s), .sh (cLd.enc (lod0 w)), .ow (.list ((crU w s (k + 1)).map cPr.enc)), .sh (.int k), .no], ?_, by simp⟩
    rw [crU_succ, List.map_append]
    generalize ((rowK w k).filter (crB w s)).map cPr.enc = z at cc hlen ⊢
    generalize (crU w s k).map cPr.enc = y at hlen ⊢
    generalize (List.range (atC w k).length).map cNat.enc = r at er cc
    generalize ((atC w k).length : Int) = nn at il ok er
    generalize cC.enc (atC w k) = c at g3 il
    generalize cLd.enc (lod0 w) = l at cc ⊢
    generalize cW.enc w = x at g3 cc ⊢
    simp [fBody, law_crushed_B0, esc, escs, escS, g3, il, ok, er, cc, hlen]
  have e1 := SS_law_loads hw (zer_ok w)
  have g := w_last hw
  have il2 := c_len (w.getLastD [])
  have em := zer_mul hw.ll
  have il := w_len w
  have ok := okR_nat (n := w.length) (by omega)
  have er := rng_nat w.length
  have sl : ∀ e : E, slotOf e (cLd.enc (lod0 w)) = .sh (cLd.enc (lod0 w)) := fun e => slot_tup
  have ez : (crU w s 0).map cPr.enc = [] := rfl
  rw [ez] at kf
  have e1 : SS id_law_loads [cW.enc w, cC.enc (List.replicate (w.getLastD []).length 0)] = some (cLd.enc (lod0 w)) := e1
  show _ = some (Fl.rt (.tuple ((crU w s w.length).map cPr.enc)))
  generalize (crU w s w.length).map cPr.enc = z at kf ⊢
  generalize (List.range w.length).map cNat.enc = r at er kf
  generalize cC.enc (List.replicate (w.getLastD []).length 0) = u at em e1
  generalize ((w.getLastD []).length : Int) = n2 at il2 em
  generalize cC.enc (w.getLastD []) = t at g il2
  generalize (w.length : Int) = nn at il ok er
  generalize cLd.enc (lod0 w) = l at e1 sl kf
  generalize cW.enc w = x at g e1 il kf ⊢
  unfold b_law_crushed
  simp [esc, escs, escF, setAll, g, il2, em, e1, sl, il, ok, er, kf]
theorem SS_crushed {wide s : Int} {w : Wal} (h : WOk wide w) (hs : 0 ≤ s ∧ s ≤ 100) : SS id_crushed [cW.enc w, .int s] = some ((cT cPr).enc (crP w s)) := by
  have e := spec_of (p := fun z : Wal × Int => okW z.1 && decide (0 ≤ z.2 ∧ z.2 ≤ 100)) (f := fun z => (cT cPr).enc (crP z.1 z.2)) (A2_enc cW cInt w s) (by simp only [okW_of h, Bool.true_and]; exact decide_eq_true hs)
  exact e
theorem SS_law_crushed {wide s : Int} {w : Wal} (h : WOk wide w) (hs : 0 ≤ s ∧ s ≤ 100) : SS id_law_crushed [cW.enc w, .int s] = some ((cT cPr).enc (crP w s)) := SS_crushed h hs
end PW

set_option maxHeartbeats 4000000
/-! What bears what: the ground, even walls, the highest, reckoned. -/
namespace PW
open PySem PyProof.Rows L2 PV
theorem zip_is {ld : List Fr2} {c : Crs} (h : ld.length = c.length) : zip2 (ld.map cF.enc) (c.map cInt.enc) = (List.range c.length).map fun n => PyData.tuple [cF.enc (ld.getD n (0, 1)), .int (at0 c n)] := by
  unfold zip2
  refine List.ext_getElem (by simp [h]) fun n h1 h2 => ?_
  have hn : n < c.length := by simpa using h2
  rw [List.getElem_map, List.getElem_map, List.getElem_range, List.getElem_zip, List.getElem_map, List.getElem_map]
  have e1 : ld.getD n (0, 1) = ld[n]'(by omega) := by simp [h, hn]
  have e2 : at0 c n = c[n] := by simp [at0, hn]
  rw [e1, e2]
  rfl
theorem zipC_is {ld : List Fr2} {c : Crs} (h : ld.length = c.length) : zipD ((cT cF).enc ld) (cC.enc c) = some ((List.range c.length).map fun n => PyData.tuple [cF.enc (ld.getD n (0, 1)), .int (at0 c n)]) := by
  rw [← zip_is h]
  rfl
theorem r_foot_loads : ∀ ds d, SS id_foot_loads ds = some d → run optM C0 SS G0 n_foot_loads.length b_foot_loads ds = some d := by
  intro ds d h
  obtain ⟨w, h1, hp, rfl⟩ := spec_some (show S_foot ds = some d from h)
  obtain rfl := A1_some h1
  obtain ⟨wide, hw⟩ := okW_it hp
  have hl := hw.len
  have hx := zer_ok w
  have h0 : 0 < w.length := by omega
  refine run_of ?_
  have e1 := SS_loads_of hw
  have g1 : dIx (cLd.enc (lod0 w)) (.int 0) = some ((cT cF).enc ((lod0 w).getD 0 [])) := ld_at (ex := zer w) h0
  have g2 : dIx (cW.enc w) (.int 0) = some (cC.enc (atC w 0)) := w_at (w := w) h0
  have z := zipC_is (ld := (lod0 w).getD 0 []) (c := atC w 0) (ld_len hw hx h0)
  have cc : compL optM (oStep C0 SS G0 (.tp (.cons (.nm 1) (.cons (.nm 2) .nil))) .yes (.call id_plus (.cons (.var 1) (.cons (.tup (.cons (.var 2) (.cons (.int 1) .nil))) .nil))) [.sh (cW.enc w), .no, .no]) ((List.range (atC w 0).length).map fun n => PyData.tuple [cF.enc (((lod0 w).getD 0 []).getD n (0, 1)), .int (at0 (atC w 0) n)]) = some ((ftP w).map cF.enc) := by
    unfold ftP
    rw [List.map_map]
    refine compL_all fun n hn => ?_
    have pp := pd hw h0
    have e := SS_plus (ok_add (ld_dn (ex := zer w) hw h0 n) (dn_int (N := 1) (at0 (atC w 0) n)) pp.1 (by decide) pp.2 (by decide))
    rw [show cF.enc (at0 (atC w 0) n, 1) = .tuple [.int (at0 (atC w 0) n), .int 1] from rfl] at e
    have e : SS id_plus [cF.enc (ldAt (lod0 w) 0 n), .tuple [.int (at0 (atC w 0) n), .int 1]] = some (cF.enc (fadd (ldAt (lod0 w) 0 n) (at0 (atC w 0) n, 1))) := e
    show oStep _ _ _ _ _ _ _ (PyData.tuple [cF.enc (ldAt (lod0 w) 0 n), .int (at0 (atC w 0) n)]) = some (some (cF.enc (fadd (ldAt (lod0 w) 0 n) (at0 (atC w 0) n, 1))))
    generalize cF.enc (fadd (ldAt (lod0 w) 0 n) (at0 (atC w 0) n, 1)) = v at e ⊢
    generalize cF.enc (ldAt (lod0 w) 0 n) = u at e ⊢
    generalize cW.enc w = x
    simp [oStep, e]
  have et : dBi .tuple (.list ((ftP w).map cF.enc)) = some ((cT cF).enc (ftP w)) := rfl
  show _ = some (Fl.rt ((cT cF).enc (ftP w)))
  generalize (cT cF).enc (ftP w) = v at et ⊢
  generalize (ftP w).map cF.enc = u at cc et
  generalize ((List.range (atC w 0).length).map fun n => PyData.tuple [cF.enc (((lod0 w).getD 0 []).getD n (0, 1)), .int (at0 (atC w 0) n)]) = r at z cc
  generalize (cT cF).enc ((lod0 w).getD 0 []) = t at g1 z
  generalize cC.enc (atC w 0) = c at g2 z
  generalize cLd.enc (lod0 w) = l at e1 g1
  generalize cW.enc w = x at e1 g2 cc ⊢
  unfold b_foot_loads
  simp [esc, escs, escS, e1, g1, g2, z, cc, et]
theorem SS_foot_loads {wide : Int} {w : Wal} (h : WOk wide w) : SS id_foot_loads [cW.enc w] = some ((cT cF).enc (ftP w)) := by
  have e := spec_of (p := okW) (f := fun w => (cT cF).enc (ftP w)) (A1_enc cW w) (okW_of h)
  exact e
theorem rt_ne {wide : Int} {w : Wal} {k : Nat} (h : WOk wide w) (hk : k < w.length) : 0 < (rtP w k).length := by
  have := h.cl hk
  unfold rtP
  rw [List.length_map, List.length_range]
  omega
theorem rt_ok {wide : Int} {w : Wal} {k n : Nat} (h : WOk wide w) (hk : k < w.length) (hn : n < (atC w k).length) : okDv (ldAt (lod0 w) k n) (at0 (atC w k) n, 1) = true := ok_dv (ld_dn (ex := zer w) h hk n) (pd h hk).1 (pd h hk).2 (by have := (h.cr hk).at hn; omega)
theorem all_comp (l : List Fr2) (s0 s1 s2 : PV.Slot) (h : 0 < l.length) : compL optM (oStep C0 SS G0 (.nm 6) .yes (.cmp .eq (.var 6) (.ix (.var 3) (.int 0))) [s0, s1, s2, .ow (.list (l.map cF.enc)), .no, .no, .no]) (l.map cF.enc) = some (l.map fun r => .bool (decide (r = l.getD 0 (0, 1)))) := by
  refine compL_all fun r _ => ?_
  have g := rowl_at (l := l) (n := 0) h
  have g : dIx (.list (l.map cF.enc)) (.int 0) = some (cF.enc (l.getD 0 (0, 1))) := g
  have e := d_eq ok_F (by decide) r (l.getD 0 (0, 1))
  generalize decide (r = l.getD 0 (0, 1)) = b at e ⊢
  generalize cF.enc (l.getD 0 (0, 1)) = v at g e
  generalize cF.enc r = u at e ⊢
  generalize l.map cF.enc = y at g ⊢
  simp [oStep, g, e]
theorem r_evenly_borne : ∀ ds d, SS id_evenly_borne ds = some d → run optM C0 SS G0 n_evenly_borne.length b_evenly_borne ds = some d := by
  intro ds d h
  obtain ⟨w, h1, hp, rfl⟩ := spec_some (show S_even ds = some d from h)
  obtain rfl := A1_some h1
  obtain ⟨wide, hw⟩ := okW_it hp
  have hl := hw.len
  have hx := zer_ok w
  refine run_of ?_
  have kf := forL_find (g := fBody C0 SS G0 (.tp (.cons (.nm 1) (.cons (.nm 2) .nil))) evenly_borne_B0) (ρ0 := [.sh (cW.enc w), .no, .no, .no, .no, .no, .no]) (fun k : Nat => PyData.tuple [(cT cF).enc ((lod0 w).getD k []), cC.enc (atC w k)]) (fun k => !evB w k) (fun _ => .bool false) (List.range w.length) fun k hk => by
    have hk := List.mem_range.mp hk
    have hc := hw.cl hk
    have z := zipC_is (ld := (lod0 w).getD k []) (c := atC w k) (ld_len hw hx hk)
    have cc : ∀ s0 s1 s2 s3 : PV.Slot, compL optM (oStep C0 SS G0 (.tp (.cons (.nm 4) (.cons (.nm 5) .nil))) .yes (.call id_by_length (.cons (.var 4) (.cons (.var 5) .nil))) [s0, s1, s2, s3, .no, .no, .no]) ((List.range (atC w k).length).map fun n => PyData.tuple [cF.enc (((lod0 w).getD k []).getD n (0, 1)), .int (at0 (atC w k) n)]) = some ((rtP w k).map cF.enc) := fun s0 s1 s2 s3 => by
      unfold rtP
      rw [List.map_map]
      refine compL_all fun n hn => ?_
      have hn := List.mem_range.mp hn
      have e := SS_by_length (rt_ok hw hk hn)
      show oStep _ _ _ _ _ _ _ (PyData.tuple [cF.enc (ldAt (lod0 w) k n), .int (at0 (atC w k) n)]) = some (some (cF.enc (fdv (ldAt (lod0 w) k n) (at0 (atC w k) n, 1))))
      generalize cF.enc (fdv (ldAt (lod0 w) k n) (at0 (atC w k) n, 1)) = v at e ⊢
      generalize cF.enc (ldAt (lod0 w) k n) = u at e ⊢
      simp [oStep, e]
    have ca := fun s0 s1 s2 => all_comp (rtP w k) s0 s1 s2 (rt_ne hw hk)
    have ea : dBi .all (.list ((rtP w k).map fun r => .bool (decide (r = (rtP w k).getD 0 (0, 1))))) = some (.bool (evB w k)) := i_allf
    have it : ∀ ys : List D, items (.list ys) = some ys := fun _ => rfl
    generalize evB w k = b at ea ⊢
    generalize ((rtP w k).map fun r => PyData.bool (decide (r = (rtP w k).getD 0 (0, 1)))) = q at ca ea
    generalize (rtP w k).map cF.enc = u at cc ca
    generalize ((List.range (atC w k).length).map fun n => PyData.tuple [cF.enc (((lod0 w).getD k []).getD n (0, 1)), .int (at0 (atC w k) n)]) = r at z cc
    generalize (cT cF).enc ((lod0 w).getD k []) = t at z ⊢
    generalize cC.enc (atC w k) = c at z ⊢
    generalize cW.enc w = x
    cases b with
    | true =>
      refine ⟨fun q => (by cases q), fun _ => ⟨[.sh x, .sh t, .sh c, .ow (.list u), .no, .no, .no], ?_, by simp⟩⟩
      simp [fBody, evenly_borne_B0, esc, escs, escS, z, cc, it, ca, ea]
    | false =>
      refine ⟨fun _ => ?_, fun q => (by cases q)⟩
      simp [fBody, evenly_borne_B0, esc, escs, escS, z, cc, it, ca, ea]
  have e1 := SS_loads_of hw
  have z : zipD (cLd.enc (lod0 w)) (cW.enc w) = some ((List.range w.length).map fun k : Nat => PyData.tuple [(cT cF).enc ((lod0 w).getD k []), cC.enc (atC w k)]) := by
    show some (zip2 ((lod0 w).map (cT cF).enc) (w.map cC.enc)) = _
    have hlen : (lod0 w).length = w.length := lod_len (zer w) w
    congr 1
    unfold zip2
    refine List.ext_getElem (by simp [hlen]) fun k h1 h2 => ?_
    have hk : k < w.length := by simpa using h2
    rw [List.getElem_map, List.getElem_map, List.getElem_range, List.getElem_zip, List.getElem_map, List.getElem_map]
    have e1 : (lod0 w).getD k [] = (lod0 w)[k]'(by omega) := by simp [hlen, hk]
    have e2 : atC w k = w[k] := by simp [atC, hk]
    rw [e1, e2]
  have ev : evP w = match (List.range w.length).find? (fun k => !evB w k) with
      | some _ => false
      | none => true := by
    unfold evP
    cases q : (List.range w.length).find? (fun k => !evB w k) with
    | some k =>
      have h1 := List.find?_some q
      have h2 := List.mem_of_find?_eq_some q
      simp only [Bool.not_eq_true'] at h1
      cases e : (List.range w.length).all (evB w) with
      | false => rfl
      | true => rw [List.all_eq_true.mp e k h2] at h1; cases h1
    | none =>
      have h1 := List.find?_eq_none.mp q
      rw [List.all_eq_true]
      exact fun k hk => by simpa using h1 k hk
  show _ = some (Fl.rt (.bool (evP w)))
  rw [ev]
  generalize (List.range w.length).find? (fun k => !evB w k) = o at kf ⊢
  generalize ((List.range w.length).map fun k : Nat => PyData.tuple [(cT cF).enc ((lod0 w).getD k []), cC.enc (atC w k)]) = r at kf z
  generalize cLd.enc (lod0 w) = l at e1 z
  generalize cW.enc w = x at e1 z kf ⊢
  unfold b_evenly_borne
  cases o <;> simp at kf <;> simp [esc, escs, escF, e1, z, kf]
theorem SS_evenly_borne {wide : Int} {w : Wal} (h : WOk wide w) : SS id_evenly_borne [cW.enc w] = some (.bool (evP w)) := by
  have e := spec_of (p := okW) (f := fun w => PyData.bool (evP w)) (A1_enc cW w) (okW_of h)
  exact e
/-- a for that ends at an element, nothing asked behind it -/
theorem forL_first {α : Type} {g : D → PV.Env → Option Fl} {ρ0 : PV.Env} (e : α → D) (x : α) (bs : List α) (r : D) (hx : g (e x) ρ0 = some (.rt r)) : ∀ as : List α, (∀ a ∈ as, ∃ ρ', g (e a) ρ0 = some (.nx ρ') ∧ msk ρ0 ρ' = ρ0) → forL optM g ρ0 ((as ++ x :: bs).map e) ρ0 = some (.rt r)
  | [], _ => by
    rw [List.nil_append, List.map_cons]
    unfold forL
    rw [o_bind, hx]
    rfl
  | a :: as, h => by
    rw [List.cons_append, List.map_cons]
    unfold forL
    obtain ⟨ρ', h1, h2⟩ := h a (by simp)
    rw [o_bind, h1]
    show forL optM g ρ0 ((as ++ x :: bs).map e) (msk ρ0 ρ') = _
    rw [h2]
    exact forL_first e x bs r hx as fun b hb => h b (by simp [hb])
theorem ok_Pr : CodOk cPr 1 := ok_2 ok_nat ok_nat (by decide) (by decide)
theorem cr_ne (l : List (Nat × Nat)) : dCmp .ne ((cT cPr).enc l) (.tuple []) = some (!l.isEmpty) := by
  classical
  rw [show PyData.tuple [] = (cT cPr).enc [] from rfl, d_ne (ok_T ok_Pr) (by decide)]
  cases l <;> simp
theorem cr_eq (l : List (Nat × Nat)) : dCmp .eq ((cT cPr).enc l) (.tuple []) = some l.isEmpty := by
  classical
  rw [show PyData.tuple [] = (cT cPr).enc [] from rfl, d_eq (ok_T ok_Pr) (by decide)]
  cases l <;> simp
theorem alt_enc (a b : Crs) (h : Nat) : (altW a b h).map cC.enc = (List.range h).map fun k => if k % 2 = 0 then cC.enc a else cC.enc b := by
  unfold altW
  rw [List.map_map]
  refine List.map_congr_left fun k _ => ?_
  show cC.enc (if k % 2 = 0 then a else b) = _
  split <;> rfl
theorem alt_comp (a b : Crs) (h : Nat) (s2 s3 s4 : PV.Slot) : compL optM (oStep C0 SS G0 (.nm 5) .yes (.ife (.cmp .eq (.bin .mod (.var 5) (.int 2)) (.int 0)) (.var 0) (.var 1)) [.sh (cC.enc a), .sh (cC.enc b), s2, s3, s4, .no]) ((List.range h).map cNat.enc) = some ((altW a b h).map cC.enc) := by
  rw [alt_enc]
  refine compL_all fun k _ => ?_
  have hm : (k : Int).fmod 2 = ((k % 2 : Nat) : Int) := by rw [Int.fmod_eq_emod_of_nonneg _ (by decide)]; omega
  show oStep _ _ _ _ _ _ _ (.int (k : Int)) = _
  generalize cC.enc a = x
  generalize cC.enc b = y
  by_cases c : k % 2 = 0
  · rw [if_pos c]
    have c' : (k : Int).fmod 2 = 0 := by omega
    simp [oStep, c']
  · rw [if_neg c]
    have c' : ¬ (k : Int).fmod 2 = 0 := by omega
    simp [oStep, c']
theorem r_highest_laid : ∀ ds d, SS id_highest_laid ds = some d → run optM C0 SS G0 n_highest_laid.length b_highest_laid ds = some d := by
  intro ds d h
  obtain ⟨⟨a, b, s⟩, h1, hp, rfl⟩ := spec_some (show S_high ds = some d from h)
  obtain rfl := A3_some h1
  have hp : okHi a b s = true := hp
  unfold okHi at hp
  simp only [decide_eq_true_eq] at hp
  obtain ⟨s0, s1, hp⟩ := hp
  refine run_of ?_
  have turn : ∀ h : Nat, h < 30 → okW (altW a b (h + 1)) = true → ((crP (altW a b (h + 1)) s).isEmpty = true → ∃ ρ', fBody C0 SS G0 (.nm 3) highest_laid_B0 (.int ((h : Int) + 1)) [.sh (cC.enc a), .sh (cC.enc b), .sh (.int s), .no, .no, .no] = some (.nx ρ') ∧ msk [.sh (cC.enc a), .sh (cC.enc b), .sh (.int s), .no, .no, .no] ρ' = [.sh (cC.enc a), .sh (cC.enc b), .sh (.int s), .no, .no, .no]) ∧ ((crP (altW a b (h + 1)) s).isEmpty = false → fBody C0 SS G0 (.nm 3) highest_laid_B0 (.int ((h : Int) + 1)) [.sh (cC.enc a), .sh (cC.enc b), .sh (.int s), .no, .no, .no] = some (.rt (.int h))) := fun h hh hok => by
    obtain ⟨wide, hw⟩ := okW_it hok
    have cc := fun s2 s3 s4 => alt_comp a b (h + 1) s2 s3 s4
    have e1 := SS_crushed hw ⟨s0, s1⟩
    have n1 := cr_ne (crP (altW a b (h + 1)) s)
    have ok : okR 0 ((h : Int) + 1) = true := okR_nat (n := h + 1) (by omega)
    have er : rng 0 ((h : Int) + 1) = (List.range (h + 1)).map cNat.enc := rng_nat (h + 1)
    have et : dBi .tuple (.list ((altW a b (h + 1)).map cC.enc)) = some (cW.enc (altW a b (h + 1))) := rfl
    have sl : ∀ e : E, slotOf e (cW.enc (altW a b (h + 1))) = .sh (cW.enc (altW a b (h + 1))) := fun e => slot_tup
    generalize (crP (altW a b (h + 1)) s).isEmpty = em at n1 ⊢
    generalize (cT cPr).enc (crP (altW a b (h + 1)) s) = v at e1 n1
    generalize cW.enc (altW a b (h + 1)) = t at e1 et sl
    generalize (altW a b (h + 1)).map cC.enc = u at cc et
    generalize (List.range (h + 1)).map cNat.enc = r at er cc
    generalize cC.enc a = x at cc ⊢
    generalize cC.enc b = y at cc ⊢
    refine ⟨fun e => ?_, fun e => ?_⟩
    · subst e
      refine ⟨[.sh x, .sh y, .sh (.int s), .sh (.int ((h : Int) + 1)), .sh t, .no], ?_, by simp⟩
      simp [fBody, highest_laid_B0, esc, escs, escS, ok, er, cc, et, sl, e1, n1]
    · subst e
      simp [fBody, highest_laid_B0, esc, escs, escS, ok, er, cc, et, sl, e1, n1]
  have ok : okR 1 31 = true := by decide
  have er : rng 1 31 = (List.range 30).map fun k : Nat => .int ((k : Int) + 1) := rng_1 30
  show _ = some (Fl.rt (hiD (hiP a b s)))
  rcases hp with ⟨q1, q2⟩ | ⟨j, q1, q2⟩
  · rw [q1]
    have hnone := List.find?_eq_none.mp q1
    have kf := forL_find (g := fBody C0 SS G0 (.nm 3) highest_laid_B0) (ρ0 := [.sh (cC.enc a), .sh (cC.enc b), .sh (.int s), .no, .no, .no]) (fun k : Nat => .int ((k : Int) + 1)) (fun _ => false) (fun _ => .none) (List.range 30) fun h hh => by
      have t := turn h (List.mem_range.mp hh) (q2 h (List.mem_range.mp hh))
      have := hnone h hh
      exact ⟨fun z => (by cases z), fun _ => t.1 (by simpa using this)⟩
    have ef : (List.range 30).find? (fun _ => false) = none := by decide
    rw [ef] at kf
    generalize ((List.range 30).map fun k : Nat => PyData.int ((k : Int) + 1)) = r at er kf
    generalize cC.enc a = x at kf ⊢
    generalize cC.enc b = y at kf ⊢
    unfold b_highest_laid
    simp at kf
    simp [esc, escs, escF, ok, er, kf, hiD]
  · rw [q1]
    have hf := List.find?_range_eq_some.mp q1
    have hj := List.mem_range.mp hf.2.1
    have es : List.range 30 = (List.range 30).take j ++ j :: (List.range 30).drop (j + 1) := by
      have e1 : (List.range 30).drop j = j :: (List.range 30).drop (j + 1) := by
        rw [List.drop_eq_getElem_cons (by simpa using hj), List.getElem_range]
      rw [← e1, List.take_append_drop]
    have kf := forL_first (g := fBody C0 SS G0 (.nm 3) highest_laid_B0) (ρ0 := [.sh (cC.enc a), .sh (cC.enc b), .sh (.int s), .no, .no, .no]) (fun k : Nat => .int ((k : Int) + 1)) j ((List.range 30).drop (j + 1)) (.int j) ((turn j hj (q2 j (Nat.le_refl _))).2 (by simpa using hf.1)) ((List.range 30).take j) fun h hh => by
      rw [List.take_range] at hh
      have hh := List.mem_range.mp hh
      have := hf.2.2 h (by omega)
      exact (turn h (by omega) (q2 h (by omega))).1 (by simpa using this)
    rw [← es] at kf
    generalize ((List.range 30).map fun k : Nat => PyData.int ((k : Int) + 1)) = r at er kf
    generalize cC.enc a = x at kf ⊢
    generalize cC.enc b = y at kf ⊢
    unfold b_highest_laid
    simp [esc, escs, escF, ok, er, kf, hiD]
theorem SS_highest_laid {a b : Crs} {s : Int} (h : okHi a b s = true) : SS id_highest_laid [cC.enc a, cC.enc b, .int s] = some (hiD (hiP a b s)) := by
  have e := spec_of (p := fun z : Crs × Crs × Int => okHi z.1 z.2.1 z.2.2) (f := fun z => hiD (hiP z.1 z.2.1 z.2.2)) (A3_enc cC cC cInt a b s) h
  exact e
end PW

set_option maxHeartbeats 4000000
/-! What bears what: the plain laws. -/
namespace PW
open PySem PyProof.Rows L2 PV
def SR (n : Nat) (f : Nat → Int) : Int := ((List.range n).map f).sum
theorem SR_succ (n : Nat) (f : Nat → Int) : SR (n + 1) f = SR n f + f n := by
  unfold SR
  rw [List.range_succ, List.map_append, List.sum_append]
  simp
theorem SR_add (f g : Nat → Int) : ∀ n, SR n (fun k => f k + g k) = SR n f + SR n g
  | 0 => rfl
  | n + 1 => by rw [SR_succ, SR_succ, SR_succ, SR_add f g n]; omega
theorem SR_mul (c : Int) (f : Nat → Int) : ∀ n, SR n (fun k => c * f k) = c * SR n f
  | 0 => by simp [SR]
  | n + 1 => by rw [SR_succ, SR_succ, SR_mul c f n, Int.mul_add]
theorem SR_mulr (c : Int) (f : Nat → Int) (n : Nat) : SR n (fun k => f k * c) = SR n f * c := by
  rw [Int.mul_comm (SR n f) c, ← SR_mul]
  unfold SR
  congr 1
  exact List.map_congr_left fun k _ => Int.mul_comm _ _
theorem SR_congr {f g : Nat → Int} {n : Nat} (h : ∀ k, k < n → f k = g k) : SR n f = SR n g := by
  unfold SR
  congr 1
  exact List.map_congr_left fun k hk => h k (List.mem_range.mp hk)
theorem SR_swap (f : Nat → Nat → Int) (m : Nat) : ∀ n, SR n (fun k => SR m (f k)) = SR m fun i => SR n fun k => f k i
  | 0 => by
    have : ∀ m, SR m (fun _ => (0 : Int)) = 0 := fun m => by
      induction m with
      | zero => rfl
      | succ m ih => rw [SR_succ, ih]; rfl
    exact (this m).symm
  | n + 1 => by
    rw [SR_succ, SR_swap f m n, ← SR_add]
    exact SR_congr fun i _ => (SR_succ n fun k => f k i).symm
section
variable {wide : Int} {c up dn : Crs} {w : Wal} {n m k j : Nat} {ex : List Int}
theorem c_SR (c : Crs) : SR c.length (at0 c) = c.sum := by
  unfold SR
  congr 1
  refine List.ext_getElem (by simp) fun i h1 h2 => ?_
  rw [List.getElem_map, List.getElem_range]
  simp [at0, h2]
theorem take_nn : ∀ (c : Crs), (∀ l ∈ c, 1 ≤ l ∧ l ≤ 4) → 0 ≤ c.sum
  | [], _ => by simp
  | l :: c, h => by
    have h1 := h l (by simp)
    have h2 := take_nn c fun x hx => h x (by simp [hx])
    rw [List.sum_cons]
    omega
theorem take_bd (h : CrOk wide c) (n : Nat) : 0 ≤ (c.take n).sum ∧ (c.take n).sum ≤ wide := by
  have h1 := take_nn (c.take n) fun l hl => h.it l (List.mem_of_mem_take hl)
  have h2 := take_nn (c.drop n) fun l hl => h.it l (List.mem_of_mem_drop hl)
  have h3 : (c.take n).sum + (c.drop n).sum = c.sum := by rw [← List.sum_append, List.take_append_drop]
  rw [h.sum] at h3
  omega
/-- the parts of a span on a whole course -/
theorem ovl_sum (h : CrOk wide dn) {p q : Int} (h0 : 0 ≤ p) (h1 : p ≤ q) (h2 : q ≤ wide) : SR dn.length (fun m => ovl (p, q) (endAt dn m)) = q - p := by
  have key : ∀ M, M ≤ dn.length → SR M (fun m => ovl (p, q) (endAt dn m)) = mx 0 (mn q (dn.take M).sum - p) := fun M => by
    induction M with
    | zero =>
      intro _
      simp only [List.take_zero, List.sum_nil]
      unfold mx mn SR
      simp
      split <;> omega
    | succ M ih =>
      intro hM
      rw [SR_succ, ih (by omega)]
      have ht := take_succ_sum dn M (by omega)
      have ha := h.at (n := M) (by omega)
      have hb := take_bd h M
      show _ + mx 0 (mn q (dn.take (M + 1)).sum - mx p (dn.take M).sum) = _
      rw [ht]
      generalize (dn.take M).sum = S at hb ⊢
      generalize at0 dn M = a at ha ⊢
      unfold mx mn
      (repeat' split) <;> omega
  rw [key _ (Nat.le_refl _), List.take_length, h.sum]
  unfold mx mn
  split <;> split <;> omega
theorem nu_int {N : Int} (hN : 0 < N) (a : Int) : nu N (a, 1) = a * N := nu_of (dn_int a) ⟨Int.one_pos, hN, by simp⟩
theorem nu_tot {N : Int} (hN : 0 < N) : ∀ (xs : List Fr2), (∀ x ∈ xs, Dn x N) → nu N (ftot xs) = (xs.map (nu N)).sum := by
  have key : ∀ (xs : List Fr2) (s : Fr2), Dn s N → (∀ x ∈ xs, Dn x N) → nu N (xs.foldl fadd s) = nu N s + (xs.map (nu N)).sum := fun xs => by
    induction xs with
    | nil => intro s _ _; simp
    | cons x xs ih =>
      intro s hs hx
      have h1 := hx x (by simp)
      rw [List.foldl_cons, ih _ (dn_add hs h1 hN) fun y hy => hx y (by simp [hy]), nu_add hs h1 hN, List.map_cons, List.sum_cons]
      omega
  intro xs hx
  have := key xs (0, 1) (dn_int 0) hx
  rw [nu_int hN 0] at this
  unfold ftot
  omega
/-- what a brick gives to all below it -/
theorem give_all (h : Stp wide w ex j) {N : Int} (hN : 0 < N) (hd : LC (atC w (j + 1)) * prodL (w.drop (j + 2)) ∣ N) (hn : n < (atC w (j + 1)).length) : SR (atC w j).length (fun m => nu N (tmP ex w j m n)) = nu N ((ldU ex w j).getD n (0, 1)) + at0 (atC w (j + 1)) n * N := by
  obtain ⟨wd, _⟩ := h.whole n
  have hp : prodL (w.drop (j + 2)) ∣ N := Int.dvd_trans ⟨LC (atC w (j + 1)), Int.mul_comm _ _⟩ hd
  have wN := wd.mono hp
  have ld := (getD_dn h.ld n).mono hp
  have ew : nu N (fadd ((ldU ex w j).getD n (0, 1)) (at0 (atC w (j + 1)) n, 1)) = nu N ((ldU ex w j).getD n (0, 1)) + at0 (atC w (j + 1)) n * N := by rw [nu_add ld (dn_int _) hN, nu_int hN]
  have ha := h.ou.at hn
  have he := end_dif hn
  have tk := take_bd h.ou
  have os := ovl_sum h.od (p := (endAt (atC w (j + 1)) n).1) (q := (endAt (atC w (j + 1)) n).2) (tk n).1 (by omega) (tk (n + 1)).2
  rw [he] at os
  rw [← ew]
  generalize hx : nu N (fadd ((ldU ex w j).getD n (0, 1)) (at0 (atC w (j + 1)) n, 1)) = x
  have each : ∀ m, m < (atC w j).length → at0 (atC w (j + 1)) n * nu N (tmP ex w j m n) = ovl (endAt (atC w (j + 1)) n) (endAt (atC w j) m) * x := fun m hm => by
    have h1 : FR (tmP ex w j m n) (ovl (endAt (atC w (j + 1)) n) (endAt (atC w j) m) * x) (at0 (atC w (j + 1)) n * N) := by
      have r1 := fr_rep (a := ovl (endAt (atC w (j + 1)) n) (endAt (atC w j) m)) (b := (endAt (atC w (j + 1)) n).2 - (endAt (atC w (j + 1)) n).1) (by omega)
      rw [he] at r1
      have r2 := nu_rep wN hN
      rw [hx] at r2
      have r3 := r1.mul r2
      have ep : partP (endAt (atC w (j + 1)) n) (endAt (atC w j) m) = fr (ovl (endAt (atC w (j + 1)) n) (endAt (atC w j) m)) (at0 (atC w (j + 1)) n) := by unfold partP; rw [he]
      unfold tmP term
      rw [ep]
      exact r3
    have h2 := (nu_rep ((h.tm (m := m) hn).mono hd) hN).scale_up (k := at0 (atC w (j + 1)) n) (by omega)
    rw [Int.mul_comm N] at h2
    rw [Int.mul_comm (at0 (atC w (j + 1)) n)]
    exact FR.inj h2 h1
  have sum1 := SR_congr (n := (atC w j).length) each
  rw [SR_mul, SR_mulr] at sum1
  have os : SR (atC w j).length (fun m => ovl (endAt (atC w (j + 1)) n) (endAt (atC w j) m)) = at0 (atC w (j + 1)) n := os
  rw [os] at sum1
  exact Int.eq_of_mul_eq_mul_left (by omega) sum1
theorem prodL_dvd : ∀ (w : Wal) (k : Nat), prodL (w.drop k) ∣ prodL w
  | w, 0 => Int.dvd_refl _
  | [], k + 1 => Int.dvd_refl _
  | c :: w, k + 1 => Int.dvd_trans (prodL_dvd w k) ⟨LC c, Int.mul_comm _ _⟩
/-- what a course bears, summed -/
def RS (ex : List Int) (w : Wal) (k : Nat) : Int := SR (atC w k).length fun n => nu (prodL w) (ldAt (lodP ex w) k n)
theorem RS_step (h : Stp wide w ex j) : RS ex w j = RS ex w (j + 1) + wide * prodL w := by
  have hN : 0 < prodL w := by have := prodL_pos w; omega
  have hj := h.hj
  have hd : LC (atC w (j + 1)) * prodL (w.drop (j + 2)) ∣ prodL w := by
    have := prodL_dvd w (j + 1)
    rw [drop_at hj] at this
    exact this
  have e1 : ∀ m, m < (atC w j).length → nu (prodL w) (ldAt (lodP ex w) j m) = SR (atC w (j + 1)).length fun n => nu (prodL w) (tmP ex w j m n) := fun m hm => by
    have e : ldAt (lodP ex w) j m = ftot (tmL ex w j m (atC w (j + 1)).length) := by
      unfold ldAt
      rw [lod_drop ex w j (by omega)]
      unfold row0
      rw [h.next]
      show (rowP (atC w (j + 1)) (atC w j) (ldU ex w j)).getD m (0, 1) = _
      rw [← rwL_is]
      unfold rwL
      simp [hm]
    rw [e, nu_tot hN _ fun x hx => by
      obtain ⟨n, hn, rfl⟩ := List.mem_map.mp hx
      exact (h.tm (List.mem_range.mp hn)).mono hd]
    unfold tmL SR
    rw [List.map_map]
    rfl
  unfold RS
  rw [SR_congr e1, SR_swap, SR_congr fun n hn => give_all h hN hd hn, SR_add, SR_mulr, c_SR, h.ou.sum]
  congr 1
  refine SR_congr fun n hn => ?_
  unfold ldAt ldU
  rw [lod_drop ex w (j + 1) hj]
theorem RS_all (h : WOk wide w) : ∀ i, i < w.length → RS (zer w) w (w.length - 1 - i) = wide * prodL w * i
  | 0, hi => by
    have hl := h.len
    rw [Nat.sub_zero]
    unfold RS
    have hN : 0 < prodL w := by have := prodL_pos w; omega
    have e : ∀ n, n < (atC w (w.length - 1)).length → nu (prodL w) (ldAt (lodP (zer w) w) (w.length - 1) n) = 0 * 1 := fun n _ => by
      unfold ldAt
      rw [lod_drop _ _ _ (by omega)]
      unfold row0
      rw [lod_last _ _ hl.1]
      have ez : ([(zer w).map fun x => ((x, 1) : Fr2)] : Lds).getD 0 [] = (zer w).map fun x => ((x, 1) : Fr2) := rfl
      rw [ez]
      have : ((zer w).map fun x => ((x, 1) : Fr2)).getD n (0, 1) = (0, 1) := by
        unfold zer
        rw [List.map_replicate, List.getD_eq_getElem?_getD, List.getElem?_replicate]
        split <;> rfl
      rw [this, nu_int hN]
      omega
    rw [SR_congr e, SR_mul]
    simp
  | i + 1, hi => by
    have st : Stp wide w (zer w) (w.length - 1 - (i + 1)) := ⟨h, by omega, (okX_it (zer_ok w)).1⟩
    have := RS_step st
    rw [show w.length - 1 - (i + 1) + 1 = w.length - 1 - i by omega, RS_all h i (by omega)] at this
    rw [this]
    have : ((i + 1 : Nat) : Int) = (i : Int) + 1 := by omega
    rw [this, Int.mul_add]
    omega
/-- what comes to the ground is all that is there -/
theorem foot_law (h : WOk wide w) : ftot (ftP w) = (wide * w.length, 1) := by
  have hl := h.len
  have hN : 0 < prodL w := by have := prodL_pos w; omega
  have h0 : 0 < w.length := by omega
  have hd : ∀ n, Dn (ldAt (lod0 w) 0 n) (prodL w) := fun n => (ld_dn (ex := zer w) h h0 n).mono (prodL_dvd w 1)
  have hx : ∀ x ∈ ftP w, Dn x (prodL w) := fun x hx => by
    obtain ⟨n, _, rfl⟩ := List.mem_map.mp hx
    exact dn_add (hd n) (dn_int _) hN
  have e1 := nu_tot hN (ftP w) hx
  have dt := (tots_dn hN (big_of h) hx).2
  have e2 : ((ftP w).map (nu (prodL w))).sum = wide * w.length * prodL w := by
    have e3 : ((ftP w).map (nu (prodL w))).sum = SR (atC w 0).length fun n => nu (prodL w) (ldAt (lod0 w) 0 n) + at0 (atC w 0) n * prodL w := by
      unfold ftP SR
      rw [List.map_map]
      congr 1
      refine List.map_congr_left fun n _ => ?_
      show nu (prodL w) (fadd (ldAt (lod0 w) 0 n) (at0 (atC w 0) n, 1)) = _
      rw [nu_add (hd n) (dn_int _) hN, nu_int hN]
    rw [e3, SR_add, SR_mulr, c_SR, (h.cr h0).sum]
    have r := RS_all h (w.length - 1) (by omega)
    rw [Nat.sub_self] at r
    have r : SR (atC w 0).length (fun n => nu (prodL w) (ldAt (lod0 w) 0 n)) = wide * prodL w * ((w.length - 1 : Nat) : Int) := r
    rw [r, show ((w.length - 1 : Nat) : Int) = (w.length : Int) - 1 by omega, Int.mul_sub, Int.mul_one]
    have : wide * prodL w * (w.length : Int) = wide * (w.length : Int) * prodL w := by ac_rfl
    omega
  have r1 := nu_rep dt hN
  rw [e1, e2] at r1
  refine FR.uniq r1 dt.red (FR.one (wide * w.length)) (red_one _) (by rw [Int.mul_one])
end
/-! walls of two courses in turn -/
def B12 : Nat → Int
  | 0 => 1
  | n + 1 => 12 * B12 n
theorem prodL_le : ∀ w : Wal, prodL w ≤ B12 w.length
  | [] => by decide
  | c :: w => by
    show LC c * prodL w ≤ 12 * B12 w.length
    have h1 := prodL_le w
    have h2 := prodL_pos w
    have h3 : LC c ≤ 12 := by rcases LC_is c with h | h <;> omega
    have h4 : LC c * prodL w ≤ 12 * prodL w := Int.mul_le_mul_of_nonneg_right h3 (by omega)
    omega
theorem B12_le {n : Nat} (h : n ≤ 9) : B12 n < 70368744177664 := by
  rcases (show n = 0 ∨ n = 1 ∨ n = 2 ∨ n = 3 ∨ n = 4 ∨ n = 5 ∨ n = 6 ∨ n = 7 ∨ n = 8 ∨ n = 9 by omega) with rfl | rfl | rfl | rfl | rfl | rfl | rfl | rfl | rfl | rfl <;> decide
theorem wok_of {wide : Int} {w : Wal} (hw : 1 ≤ wide ∧ wide ≤ 8) (hl : 1 ≤ w.length ∧ w.length ≤ 9) (hi : ∀ c ∈ w, CrOk wide c) : WOk wide w := ⟨hw, by omega, hi, Int.lt_of_le_of_lt (prodL_le w) (B12_le hl.2)⟩
theorem alt_ok {wide : Int} {a b : Crs} (hw : 1 ≤ wide ∧ wide ≤ 8) (ha : CrOk wide a) (hb : CrOk wide b) {h : Nat} (h1 : 1 ≤ h ∧ h ≤ 9) : WOk wide (altW a b h) := wok_of hw (by unfold altW; simpa using h1) fun c hc => by
  obtain ⟨k, _, rfl⟩ := List.mem_map.mp hc
  split <;> assumption
theorem ones_prod : ∀ w : Wal, (∀ c ∈ w, c = [1]) → prodL w = 1
  | [], _ => rfl
  | c :: w, h => by
    show LC c * prodL w = 1
    rw [ones_prod w fun d hd => h d (by simp [hd]), h c (by simp)]
    rfl
theorem ones_ok {h : Nat} (h1 : 1 ≤ h ∧ h ≤ 30) : WOk 1 (altW [1] [1] h) where
  wd := by decide
  len := by unfold altW; simpa using h1
  it := fun c hc => by
    obtain ⟨k, _, rfl⟩ := List.mem_map.mp hc
    rw [ite_self]
    exact ⟨rfl, fun l hl => by have := List.mem_singleton.mp hl; omega⟩
  lt := by
    rw [ones_prod _ fun c hc => by
      obtain ⟨k, _, rfl⟩ := List.mem_map.mp hc
      rw [ite_self]]
    decide
theorem ones_loads : ∀ h : Fin 30, ((posW (altW [1] [1] (h.val + 1))).all fun z => decide ((ldAt (lod0 (altW [1] [1] (h.val + 1))) z.1 z.2).1 ≤ 29 ∧ (ldAt (lod0 (altW [1] [1] (h.val + 1))) z.1 z.2).2 = 1 ∧ at0 (atC (altW [1] [1] (h.val + 1)) z.1) z.2 = 1)) = true := by decide +kernel
theorem ones_none {s : Int} (hs : 29 ≤ s ∧ s ≤ 100) : hiP [1] [1] s = none := by
  refine List.find?_eq_none.mpr fun h hh => ?_
  have hh := List.mem_range.mp hh
  have key := List.all_eq_true.mp (ones_loads ⟨h, hh⟩)
  have : crP (altW [1] [1] (h + 1)) s = [] := by
    unfold crP
    rw [List.filter_eq_nil_iff]
    intro z hz
    have := key z hz
    simp only [decide_eq_true_eq] at this
    unfold crB flt
    rw [this.2.2, this.2.1]
    simp only [decide_eq_true_eq]
    omega
  rw [this]
  simp
theorem ones_hi {s : Int} (hs : 29 ≤ s ∧ s ≤ 100) : okHi [1] [1] s = true := by
  unfold okHi
  simp only [decide_eq_true_eq]
  exact ⟨by omega, hs.2, .inl ⟨ones_none hs, fun h hh => okW_of (ones_ok (by omega))⟩⟩
theorem hi_law {wide s : Int} {a b : Crs} (hw : 1 ≤ wide ∧ wide ≤ 8) (ha : CrOk wide a) (hb : CrOk wide b) (hs : 0 ≤ s ∧ s ≤ 100) {h : Nat} (h9 : h < 9) (hlt : ∀ j, j < h → crP (altW a b (j + 1)) s = []) (hne : crP (altW a b (h + 1)) s ≠ []) : hiP a b s = some h ∧ okHi a b s = true := by
  have e : hiP a b s = some h := by
    refine List.find?_range_eq_some.mpr ⟨?_, List.mem_range.mpr (by omega), fun j hj => by rw [hlt j hj]; rfl⟩
    cases q : crP (altW a b (h + 1)) s with
    | nil => exact absurd q hne
    | cons => rfl
  refine ⟨e, ?_⟩
  unfold okHi
  simp only [decide_eq_true_eq]
  exact ⟨hs.1, hs.2, .inr ⟨h, e, fun j hj => okW_of (alt_ok hw ha hb (by omega))⟩⟩
end PW

set_option maxHeartbeats 4000000
/-! PV: while with draws in its turns. -/
namespace PV
open PySem PyProof.Rows L2
section
variable {C : Nat → Option D} {T : Nat → List D → Option D} {G : Nat → List D → W D}
/-- a while by what holds at each turn; the question asked is pure -/
theorem whl_R {t : E} {b : Ss} {ρ : Env} {R : Fl → Prop} (J : Nat → Env → Prop) (h0 : ∃ n, J n (frz (esc true t) ρ))
    (step : ∀ n ρ1, J n ρ1 → ∃ c : Bool, ev optM C T (fun _ _ => none) t ρ1 = some (.bool c) ∧ (c = true → ∀ Q : Fl → Prop, (∀ ρ2, (∃ k, k < n ∧ J k (frz (esc true t) (msk (frz (esc true t) ρ) ρ2))) → Wr (Q (.nx ρ2))) → Wr (exs wM C (fun n ds => ofO (T n ds)) G b ρ1 Q)) ∧ (c = false → Wr (R (.nx ρ1)))) :
    Wr (ex wM C (fun n ds => ofO (T n ds)) G (.whl t b) ρ R) := by
  refine Wr.mk ?_
  unfold ex
  refine ⟨J, h0, fun n ρ1 hJ => ?_⟩
  obtain ⟨c, hc, hy, hn⟩ := step n ρ1 hJ
  unfold whlStep
  rw [w_bind]
  show wM.bind (ev wM C (fun n ds => ofO (T n ds)) G t ρ1) (fun x => wM.lift (bool? x)) _
  rw [w_bind]
  refine w_ev hc ?_
  rw [w_lift]
  refine ⟨c, rfl, ?_⟩
  cases c with
  | true =>
    rw [if_pos rfl, w_bind]
    exact (hy rfl _ fun ρ2 h => Wr.mk h).out
  | false =>
    rw [if_neg (by simp)]
    exact (hn rfl).out
end
end PV

set_option maxHeartbeats 4000000
/-! What bears what: the law, statement by statement. -/
namespace PW
open PySem PySem.W PyProof.Rows L2 PV
theorem psz_map {α : Type} (c : Cod α) (m : Nat) (h : ∀ a, psz (c.enc a) = m) : ∀ l : List α, pszs (l.map c.enc) = m * l.length
  | [] => by simp [pszs]
  | a :: l => by
    simp only [List.map_cons, pszs, List.length_cons, h a, psz_map c m h l, Nat.mul_add]
    omega
theorem psz_le {α : Type} (c : Cod α) (m : Nat) : ∀ l : List α, (∀ a ∈ l, psz (c.enc a) ≤ m) → pszs (l.map c.enc) ≤ m * l.length
  | [], _ => by simp [pszs]
  | a :: l, h => by
    have h1 := h a (by simp)
    have h2 := psz_le c m l fun b hb => h b (by simp [hb])
    simp only [List.map_cons, pszs, List.length_cons, Nat.mul_add]
    omega
theorem psz_F (p : Fr2) : psz (cF.enc p) = 3 := rfl
theorem psz_Fs (l : List Fr2) : psz ((cT cF).enc l) = 3 * l.length + 1 := by
  show pszs (l.map cF.enc) + 1 = _
  rw [psz_map cF 3 psz_F]
theorem psz_Ps (l : List (Nat × Nat)) : psz ((cT cPr).enc l) = 3 * l.length + 1 := by
  show pszs (l.map cPr.enc) + 1 = _
  rw [psz_map cPr 3 (fun _ => rfl)]
theorem sh9 {α : Type} {c : Cod α} {n : Nat} (h : CodOk c n) (hn : n ≤ 9) (a : α) : shal 9 (c.enc a) = true := shal_mono _ hn (h.sh a)
theorem ok_Fs : CodOk (cT cF) 2 := ok_T ok_F
theorem ok_Ld : CodOk cLd 3 := ok_T ok_Fs
theorem ok_Ps : CodOk (cT cPr) 2 := ok_T ok_Pr
theorem ne_F (p : Fr2) : dCmp .ne (cF.enc p) (cF.enc p) = some false := ne_self_c ok_F (by decide) p
section
variable {wide : Int} {w : Wal} {xt : List Int} {k n : Nat} {s : Int}
theorem lod_row (h : WOk wide w) (hx : okX w xt = true) : ∀ r ∈ lodP xt w, r.length ≤ 8 := fun r hr => by
  obtain ⟨k, hk, e⟩ := List.mem_iff_getElem.mp hr
  have hk' : k < w.length := by rw [lod_len] at hk; exact hk
  have h1 := ld_len h hx hk'
  have h2 := h.cl hk'
  have e2 : (lodP xt w).getD k [] = r := by simp [hk, e]
  rw [e2] at h1
  omega
theorem psz_Ld (h : WOk wide w) (hx : okX w xt = true) : psz (cLd.enc (lodP xt w)) ≤ 25 * w.length + 1 := by
  show pszs ((lodP xt w).map (cT cF).enc) + 1 ≤ _
  have := psz_le (cT cF) 25 (lodP xt w) fun r hr => by
    rw [psz_Fs]
    have := lod_row h hx r hr
    omega
  rw [lod_len] at this
  omega
theorem cr_len (h : WOk wide w) : (crP w s).length ≤ 8 * w.length := crU_len h (Nat.le_refl _)
theorem ft_len (h : WOk wide w) : (ftP w).length ≤ 8 := by
  have := h.cl (k := 0) (by have := h.len; omega)
  unfold ftP
  rw [List.length_map, List.length_range]
  exact this.2
end
def eV (t : Int) (s3 s4 s5 s6 s7 s8 s9 s10 s11 s12 s13 s14 s15 s17 s18 s19 s20 : PV.Slot) : PV.Env := [.no, .no, .sh (.int t), s3, s4, s5, s6, s7, s8, s9, s10, s11, s12, s13, s14, s15, .no, s17, s18, s19, s20, .no, .no]
section
variable {t wide s : Int} {w : Wal} {xt : List Int} {k n : Nat}
variable {s3 s4 s5 s6 s7 s8 s9 s10 s11 s12 s13 s14 s15 s17 s18 s19 s20 : PV.Slot}
theorem k4 : ex optM C0 SS G0 law_B0_s4 (eV t s3 s4 s5 s6 s7 .no .no .no .no .no .no .no .no .no .no .no .no) = some (.nx (eV t s3 s4 s5 s6 s7 (.sh .none) .no .no .no .no .no .no .no .no .no .no .no)) := by
  simp [law_B0_s4, eV, esc, escs]
theorem b4_turn (hw : WOk wide w) (hk : k < w.length) (hn : n < (atC w k).length) (b : Option (Fr2 × Nat × Nat)) (hb : HI b) : fBody C0 SS G0 (.nm 10) law_B4 (.int n) (eV t s3 (.sh (cW.enc w)) (.sh (cLd.enc (lod0 w))) s6 s7 (.sh (hvD b)) (.sh (.int k)) .no .no .no .no .no .no .no .no .no .no) = some (.nx (eV t s3 (.sh (cW.enc w)) (.sh (cLd.enc (lod0 w))) s6 s7 (.sh (hvD (hStep (lod0 w) b (k, n)))) (.sh (.int k)) (.sh (.int n)) .no .no .no .no .no .no .no .no .no)) := by
  have hx := zer_ok w
  have g1 : dIx (cLd.enc (lod0 w)) (.int (k : Int)) = some ((cT cF).enc ((lod0 w).getD k [])) := ld_at (ex := zer w) hk
  have g2 : dIx ((cT cF).enc ((lod0 w).getD k [])) (.int (n : Int)) = some (cF.enc (ldAt (lod0 w) k n)) := ldn_at hw hx hk hn
  have q : PV.small64 (ldAt (lod0 w) k n).2 = true := ld_sm (ex := zer w) hw hk n
  cases b with
  | none =>
    have eb : hvD (hStep (lod0 w) none (k, n)) = .tuple [cF.enc (ldAt (lod0 w) k n), .int k, .int n] := rfl
    unfold eV
    rw [eb, show hvD none = .none from rfl]
    generalize cF.enc (ldAt (lod0 w) k n) = v at g2 ⊢
    generalize (cT cF).enc ((lod0 w).getD k []) = u at g1 g2
    generalize cLd.enc (lod0 w) = l at g1 ⊢
    generalize cW.enc w = x
    simp [fBody, law_B4, law_B4_s0, esc, escs, isN, g1, g2]
  | some z =>
    have hq := hb.it z rfl
    have e3 := SS_law_less (p := z.1) (q := ldAt (lod0 w) k n) (by unfold okS; rw [q, hq]; rfl)
    have eb : hStep (lod0 w) (some z) (k, n) = if flt z.1 (ldAt (lod0 w) k n) = true then some (ldAt (lod0 w) k n, k, n) else some z := rfl
    unfold eV
    rw [eb, show hvD (some z) = .tuple [cF.enc z.1, .int z.2.1, .int z.2.2] from rfl]
    cases hc : flt z.1 (ldAt (lod0 w) k n) with
    | true =>
      rw [hc] at e3
      rw [if_pos rfl, show hvD (some (ldAt (lod0 w) k n, k, n)) = .tuple [cF.enc (ldAt (lod0 w) k n), .int k, .int n] from rfl]
      generalize cF.enc (ldAt (lod0 w) k n) = v at g2 e3 ⊢
      generalize cF.enc z.1 = v1 at e3 ⊢
      generalize (cT cF).enc ((lod0 w).getD k []) = u at g1 g2
      generalize cLd.enc (lod0 w) = l at g1 ⊢
      generalize cW.enc w = x
      simp [fBody, law_B4, law_B4_s0, esc, escs, isN, g1, g2, e3]
    | false =>
      rw [hc] at e3
      rw [if_neg (by simp), show hvD (some z) = .tuple [cF.enc z.1, .int z.2.1, .int z.2.2] from rfl]
      generalize cF.enc (ldAt (lod0 w) k n) = v at g2 e3 ⊢
      generalize cF.enc z.1 = v1 at e3 ⊢
      generalize (cT cF).enc ((lod0 w).getD k []) = u at g1 g2
      generalize cLd.enc (lod0 w) = l at g1 ⊢
      generalize cW.enc w = x
      simp [fBody, law_B4, law_B4_s0, esc, escs, isN, g1, g2, e3]
theorem k5 (hw : WOk wide w) : ex optM C0 SS G0 law_B0_s5 (eV t s3 (.sh (cW.enc w)) (.sh (cLd.enc (lod0 w))) (.sh (cC.enc xt)) (.sh (.int s)) (.sh .none) .no .no .no .no .no .no .no .no .no .no .no) = some (.nx (eV t s3 (.sh (cW.enc w)) (.sh (cLd.enc (lod0 w))) (.sh (cC.enc xt)) (.sh (.int s)) (.sh (hvD (hvP w))) .no .no .no .no .no .no .no .no .no .no .no)) := by
  have hl := hw.len
  have inner : ∀ (k : Nat) (b : Option (Fr2 × Nat × Nat)), k < w.length → HI b → forL optM (fBody C0 SS G0 (.nm 10) law_B4) (eV t s3 (.sh (cW.enc w)) (.sh (cLd.enc (lod0 w))) (.sh (cC.enc xt)) (.sh (.int s)) (.sh (hvD b)) (.sh (.int k)) .no .no .no .no .no .no .no .no .no .no) ((List.range (atC w k).length).map cNat.enc) (eV t s3 (.sh (cW.enc w)) (.sh (cLd.enc (lod0 w))) (.sh (cC.enc xt)) (.sh (.int s)) (.sh (hvD b)) (.sh (.int k)) .no .no .no .no .no .no .no .no .no .no) = some (.nx (eV t s3 (.sh (cW.enc w)) (.sh (cLd.enc (lod0 w))) (.sh (cC.enc xt)) (.sh (.int s)) (.sh (hvD ((rowK w k).foldl (hStep (lod0 w)) b))) (.sh (.int k)) .no .no .no .no .no .no .no .no .no .no)) := fun k b hk hb => by
    have key := forL_fold (g := fBody C0 SS G0 (.nm 10) law_B4) (ρ0 := eV t s3 (.sh (cW.enc w)) (.sh (cLd.enc (lod0 w))) (.sh (cC.enc xt)) (.sh (.int s)) (.sh (hvD b)) (.sh (.int k)) .no .no .no .no .no .no .no .no .no .no) (fun z : Nat × Nat => .int z.2) (fun b => eV t s3 (.sh (cW.enc w)) (.sh (cLd.enc (lod0 w))) (.sh (cC.enc xt)) (.sh (.int s)) (.sh (hvD b)) (.sh (.int k)) .no .no .no .no .no .no .no .no .no .no) (hStep (lod0 w)) (fun b xs => HI b ∧ ∀ z ∈ xs, z.1 = k ∧ z.2 < (atC w k).length) ?_ (rowK w k) b ⟨hb, fun z hz => by
      obtain ⟨n, hn, rfl⟩ := List.mem_map.mp hz
      exact ⟨rfl, List.mem_range.mp hn⟩⟩
    · have e : (rowK w k).map (fun z : Nat × Nat => PyData.int z.2) = (List.range (atC w k).length).map cNat.enc := by unfold rowK; rw [List.map_map]; rfl
      rw [e] at key
      exact key
    · rintro b ⟨k', n⟩ xs ⟨hb, hz⟩
      obtain ⟨rfl, hn⟩ := hz (k', n) (by simp)
      exact ⟨⟨_, b4_turn hw hk hn b hb, by simp [eV]⟩, hb.step hw hk n, fun z hz' => hz z (by simp [hz'])⟩
  have key := forL_fold (g := fBody C0 SS G0 (.nm 9) law_B3) (ρ0 := eV t s3 (.sh (cW.enc w)) (.sh (cLd.enc (lod0 w))) (.sh (cC.enc xt)) (.sh (.int s)) (.sh .none) .no .no .no .no .no .no .no .no .no .no .no) cNat.enc (fun b => eV t s3 (.sh (cW.enc w)) (.sh (cLd.enc (lod0 w))) (.sh (cC.enc xt)) (.sh (.int s)) (.sh (hvD b)) .no .no .no .no .no .no .no .no .no .no .no) (fun b k => (rowK w k).foldl (hStep (lod0 w)) b) (fun b xs => HI b ∧ ∀ k ∈ xs, k < w.length) ?_ (List.range w.length) none ⟨⟨fun z hz => by cases hz⟩, fun k hk => List.mem_range.mp hk⟩
  · rw [← fold_pos w (lod0 w) (List.range w.length) none] at key
    have ez : ((List.range w.length).flatMap (rowK w)).foldl (hStep (lod0 w)) none = hvP w := rfl
    rw [ez, show hvD none = .none from rfl] at key
    have il := w_len w
    have ok := okR_nat (n := w.length) (by omega)
    have er := rng_nat w.length
    have ef : frz (escF (.r1 (.bi .len (.var 4)))) (eV t s3 (.sh (cW.enc w)) (.sh (cLd.enc (lod0 w))) (.sh (cC.enc xt)) (.sh (.int s)) (.sh .none) .no .no .no .no .no .no .no .no .no .no .no) = eV t s3 (.sh (cW.enc w)) (.sh (cLd.enc (lod0 w))) (.sh (cC.enc xt)) (.sh (.int s)) (.sh .none) .no .no .no .no .no .no .no .no .no .no .no := by simp [escF, esc, escs]
    have eg : getV (eV t s3 (.sh (cW.enc w)) (.sh (cLd.enc (lod0 w))) (.sh (cC.enc xt)) (.sh (.int s)) (.sh .none) .no .no .no .no .no .no .no .no .no .no .no) 4 = some (cW.enc w) := rfl
    unfold law_B0_s5
    rw [x_for, ef, oS_r1, o_bi, o_var, eg]
    simp only [Option.bind_some, il, int?, ok, if_true, er]
    exact key
  · rintro b k xs ⟨hb, hk⟩
    have hk1 := hk k (by simp)
    have hc := hw.cl hk1
    have i1 := inner k b hk1 hb
    refine ⟨⟨eV t s3 (.sh (cW.enc w)) (.sh (cLd.enc (lod0 w))) (.sh (cC.enc xt)) (.sh (.int s)) (.sh (hvD ((rowK w k).foldl (hStep (lod0 w)) b))) (.sh (.int k)) .no .no .no .no .no .no .no .no .no .no, ?_, by simp [eV]⟩, HI.fold hw hk1 _ b hb, fun j hj => hk j (by simp [hj])⟩
    have g1 := w_at (w := w) hk1
    have il := c_len (atC w k)
    have ok := okR_nat (n := (atC w k).length) (by omega)
    have er := rng_nat (atC w k).length
    generalize (rowK w k).foldl (hStep (lod0 w)) b = z at i1 ⊢
    unfold eV at i1 ⊢
    generalize hvD z = d at i1 ⊢
    generalize hvD b = d2 at i1 ⊢
    generalize (List.range (atC w k).length).map cNat.enc = r at er i1
    generalize ((atC w k).length : Int) = nn at il ok er
    generalize cC.enc (atC w k) = c at g1 il
    generalize cLd.enc (lod0 w) = l at i1 ⊢
    generalize cW.enc w = x at g1 i1 ⊢
    generalize cC.enc xt = y at i1 ⊢
    simp [fBody, law_B3, law_B3_s0, esc, escs, escF, g1, il, ok, er, i1]
theorem k6 (hw : WOk wide w) : ex optM C0 SS G0 law_B0_s6 (eV t s3 (.sh (cW.enc w)) (.sh (cLd.enc (lod0 w))) s6 s7 s8 .no .no .no .no .no .no .no .no .no .no .no) = some (.nx (eV t s3 (.sh (cW.enc w)) (.sh (cLd.enc (lod0 w))) s6 s7 s8 .no .no (.sh ((cT cF).enc (ftP w))) .no .no .no .no .no .no .no .no)) := by
  have hl := hw.len
  have hx := zer_ok w
  have h0 : 0 < w.length := by omega
  have hc := hw.cl h0
  have g1 : dIx (cLd.enc (lod0 w)) (.int 0) = some ((cT cF).enc ((lod0 w).getD 0 [])) := ld_at (ex := zer w) h0
  have g2 : dIx (cW.enc w) (.int 0) = some (cC.enc (atC w 0)) := w_at (w := w) h0
  have il := c_len (atC w 0)
  have ok := okR_nat (n := (atC w 0).length) (by omega)
  have er := rng_nat (atC w 0).length
  have cc : compL optM (oStep C0 SS G0 (.nm 10) .yes (.call id_law_plus (.cons (.ix (.ix (.var 5) (.int 0)) (.var 10)) (.cons (.tup (.cons (.ix (.ix (.var 4) (.int 0)) (.var 10)) (.cons (.int 1) .nil))) .nil))) (eV t s3 (.sh (cW.enc w)) (.sh (cLd.enc (lod0 w))) s6 s7 s8 .no .no .no .no .no .no .no .no .no .no .no)) ((List.range (atC w 0).length).map cNat.enc) = some ((ftP w).map cF.enc) := by
    unfold ftP
    rw [List.map_map]
    refine compL_all fun n hn => ?_
    have hn := List.mem_range.mp hn
    have pp := pd hw h0
    have e := SS_law_plus (ok_add (ld_dn (ex := zer w) hw h0 n) (dn_int (N := 1) (at0 (atC w 0) n)) pp.1 (by decide) pp.2 (by decide))
    rw [show cF.enc (at0 (atC w 0) n, 1) = .tuple [.int (at0 (atC w 0) n), .int 1] from rfl] at e
    have e : SS id_law_plus [cF.enc (ldAt (lod0 w) 0 n), .tuple [.int (at0 (atC w 0) n), .int 1]] = some (cF.enc (fadd (ldAt (lod0 w) 0 n) (at0 (atC w 0) n, 1))) := e
    have q1 : dIx ((cT cF).enc ((lod0 w).getD 0 [])) (.int (n : Int)) = some (cF.enc (ldAt (lod0 w) 0 n)) := ldn_at hw hx h0 hn
    have q2 := c_at (c := atC w 0) hn
    show oStep _ _ _ _ _ _ _ (.int (n : Int)) = some (some (cF.enc (fadd (ldAt (lod0 w) 0 n) (at0 (atC w 0) n, 1))))
    unfold eV
    generalize cF.enc (fadd (ldAt (lod0 w) 0 n) (at0 (atC w 0) n, 1)) = v at e ⊢
    generalize cF.enc (ldAt (lod0 w) 0 n) = u at q1 e
    generalize at0 (atC w 0) n = a at q2 e
    generalize (cT cF).enc ((lod0 w).getD 0 []) = z at g1 q1
    generalize cC.enc (atC w 0) = c at g2 q2
    generalize cLd.enc (lod0 w) = l at g1 ⊢
    generalize cW.enc w = x at g2 ⊢
    simp [oStep, g1, g2, q1, q2, e]
  have et : dBi .tuple (.list ((ftP w).map cF.enc)) = some ((cT cF).enc (ftP w)) := rfl
  have sl : ∀ e : E, slotOf e ((cT cF).enc (ftP w)) = .sh ((cT cF).enc (ftP w)) := fun e => slot_tup
  generalize (cT cF).enc (ftP w) = v at et sl ⊢
  generalize (ftP w).map cF.enc = u at cc et
  generalize (List.range (atC w 0).length).map cNat.enc = r at er cc
  generalize ((atC w 0).length : Int) = nn at il ok er
  generalize cC.enc (atC w 0) = c at g2 il
  unfold eV at cc ⊢
  generalize cLd.enc (lod0 w) = l at cc ⊢
  generalize cW.enc w = x at g2 cc ⊢
  simp [law_B0_s6, esc, escs, escS, g2, il, ok, er, cc, et, sl]
def rtD (w : Wal) (k : Nat) : D := .list ((rtP w k).map cF.enc)
theorem k7 (hw : WOk wide w) : ex optM C0 SS G0 law_B0_s7 (eV t s3 (.sh (cW.enc w)) (.sh (cLd.enc (lod0 w))) s6 s7 s8 .no .no s11 .no .no .no .no .no .no .no .no) = some (.nx (eV t s3 (.sh (cW.enc w)) (.sh (cLd.enc (lod0 w))) s6 s7 s8 .no .no s11 (.ow (.list ((List.range w.length).map (rtD w)))) .no .no .no .no .no .no .no)) := by
  have hl := hw.len
  have hx := zer_ok w
  have il := w_len w
  have ok := okR_nat (n := w.length) (by omega)
  have er := rng_nat w.length
  have cc : compL optM (oStep C0 SS G0 (.nm 9) .yes (.comp [10] (.nm 10) (.r1 (.bi .len (.ix (.var 4) (.var 9)))) .yes (.call id_law_fraction (.cons (.ix (.ix (.ix (.var 5) (.var 9)) (.var 10)) (.int 0)) (.cons (.bin .mul (.ix (.ix (.ix (.var 5) (.var 9)) (.var 10)) (.int 1)) (.ix (.ix (.var 4) (.var 9)) (.var 10))) .nil)))) (eV t s3 (.sh (cW.enc w)) (.sh (cLd.enc (lod0 w))) s6 s7 s8 .no .no s11 .no .no .no .no .no .no .no .no)) ((List.range w.length).map cNat.enc) = some ((List.range w.length).map (rtD w)) := by
    refine compL_all fun k hk => ?_
    have hk := List.mem_range.mp hk
    have hc := hw.cl hk
    have g1 : dIx (cLd.enc (lod0 w)) (.int (k : Int)) = some ((cT cF).enc ((lod0 w).getD k [])) := ld_at (ex := zer w) hk
    have g2 := w_at (w := w) hk
    have il := c_len (atC w k)
    have ok := okR_nat (n := (atC w k).length) (by omega)
    have er := rng_nat (atC w k).length
    have ci : compL optM (oStep C0 SS G0 (.nm 10) .yes (.call id_law_fraction (.cons (.ix (.ix (.ix (.var 5) (.var 9)) (.var 10)) (.int 0)) (.cons (.bin .mul (.ix (.ix (.ix (.var 5) (.var 9)) (.var 10)) (.int 1)) (.ix (.ix (.var 4) (.var 9)) (.var 10))) .nil))) (eV t s3 (.sh (cW.enc w)) (.sh (cLd.enc (lod0 w))) s6 s7 s8 (.sh (.int k)) .no s11 .no .no .no .no .no .no .no .no)) ((List.range (atC w k).length).map cNat.enc) = some ((rtP w k).map cF.enc) := by
      unfold rtP
      rw [List.map_map]
      refine compL_all fun n hn => ?_
      have hn := List.mem_range.mp hn
      have q1 : dIx ((cT cF).enc ((lod0 w).getD k [])) (.int (n : Int)) = some (cF.enc (ldAt (lod0 w) k n)) := ldn_at hw hx hk hn
      have q2 := c_at (c := atC w k) hn
      have q3 : dIx (cF.enc (ldAt (lod0 w) k n)) (.int 0) = some (.int (ldAt (lod0 w) k n).1) := by simp [e_F]
      have q4 : dIx (cF.enc (ldAt (lod0 w) k n)) (.int 1) = some (.int (ldAt (lod0 w) k n).2) := by simp [e_F]
      have pp := pd hw hk
      have dd := ld_dn (ex := zer w) hw hk n
      have ha := (hw.cr hk).at hn
      have e := SS_law_fraction (a := (ldAt (lod0 w) k n).1) (b := (ldAt (lod0 w) k n).2 * at0 (atC w k) n) (okG_of (prod_big (dd.bd pp.1 pp.2) (by unfold BIG; omega)))
      have ef : fr (ldAt (lod0 w) k n).1 ((ldAt (lod0 w) k n).2 * at0 (atC w k) n) = fdv (ldAt (lod0 w) k n) (at0 (atC w k) n, 1) := by unfold fdv; rw [Int.mul_one]
      rw [ef] at e
      have sm : PV.small64 (ldAt (lod0 w) k n).2 = true := ld_sm (ex := zer w) hw hk n
      show oStep _ _ _ _ _ _ _ (.int (n : Int)) = some (some (cF.enc (fdv (ldAt (lod0 w) k n) (at0 (atC w k) n, 1))))
      unfold eV
      generalize cF.enc (fdv (ldAt (lod0 w) k n) (at0 (atC w k) n, 1)) = v at e ⊢
      generalize (ldAt (lod0 w) k n).1 = a1 at q3 e
      generalize (ldAt (lod0 w) k n).2 = a2 at q4 e sm
      generalize cF.enc (ldAt (lod0 w) k n) = u at q1 q3 q4
      generalize at0 (atC w k) n = a at q2 e
      generalize (cT cF).enc ((lod0 w).getD k []) = z at g1 q1
      generalize cC.enc (atC w k) = c at g2 q2
      generalize cLd.enc (lod0 w) = l at g1 ⊢
      generalize cW.enc w = x at g2 ⊢
      simp [oStep, g1, g2, q1, q2, q3, q4, sm, e]
    show oStep _ _ _ _ _ _ _ (.int (k : Int)) = some (some (.list ((rtP w k).map cF.enc)))
    generalize (rtP w k).map cF.enc = v at ci ⊢
    generalize (List.range (atC w k).length).map cNat.enc = r at er ci
    generalize ((atC w k).length : Int) = nn at il ok er
    generalize cC.enc (atC w k) = c at g2 il
    unfold eV at ci ⊢
    generalize cLd.enc (lod0 w) = l at ci ⊢
    generalize cW.enc w = x at g2 ci ⊢
    simp [oStep, g2, il, ok, er, ci]
  generalize (List.range w.length).map (rtD w) = v at cc ⊢
  generalize (List.range w.length).map cNat.enc = r at er cc
  generalize (w.length : Int) = nn at il ok er
  unfold eV at cc ⊢
  generalize cLd.enc (lod0 w) = l at cc ⊢
  generalize cW.enc w = x at il cc ⊢
  simp [law_B0_s7, esc, escs, escS, il, ok, er, cc]
theorem fil_all {α : Type} (p : α → Bool) (l : List α) : (l.filter fun x => !p x).isEmpty = l.all p := by
  induction l with
  | nil => rfl
  | cons x l ih =>
    rw [List.filter_cons, List.all_cons]
    cases p x <;> simp [ih]
theorem k8 (hw : WOk wide w) : ex optM C0 SS G0 law_B0_s8 (eV t s3 s4 s5 s6 s7 s8 .no .no s11 (.ow (.list ((List.range w.length).map (rtD w)))) .no .no .no .no .no .no .no) = some (.nx (eV t s3 s4 s5 s6 s7 s8 .no .no s11 (.ow (.list ((List.range w.length).map (rtD w)))) (.sh (.bool (evP w))) .no .no .no .no .no .no)) := by
  have cc : ∀ s12 : PV.Slot, compL optM (oStep C0 SS G0 (.nm 21) (.cmp .ne (.comp [16] (.nm 16) (.val (.var 21)) (.cmp .ne (.var 16) (.ix (.var 21) (.int 0))) (.var 16)) (.lst .nil)) (.var 21) (eV t s3 s4 s5 s6 s7 s8 .no .no s11 s12 .no .no .no .no .no .no .no)) ((List.range w.length).map (rtD w)) = some (((List.range w.length).filter fun k => !evB w k).map (rtD w)) := fun s12 => by
    refine compL_fil (p := fun k => !evB w k) fun k hk => ?_
    have hk := List.mem_range.mp hk
    have ci : compL optM (oStep C0 SS G0 (.nm 16) (.cmp .ne (.var 16) (.ix (.var 21) (.int 0))) (.var 16) ((eV t s3 s4 s5 s6 s7 s8 .no .no s11 s12 .no .no .no .no .no .no .no).set 21 (.sh (rtD w k)))) ((rtP w k).map cF.enc) = some (((rtP w k).filter fun r => !decide (r = (rtP w k).getD 0 (0, 1))).map cF.enc) := by
      refine compL_fil (p := fun r => !decide (r = (rtP w k).getD 0 (0, 1))) fun r _ => ?_
      have g := rowl_at (l := rtP w k) (n := 0) (rt_ne hw hk)
      have g : dIx (rtD w k) (.int 0) = some (cF.enc ((rtP w k).getD 0 (0, 1))) := g
      have e := d_ne ok_F (by decide) r ((rtP w k).getD 0 (0, 1))
      generalize decide (r = (rtP w k).getD 0 (0, 1)) = b at e ⊢
      generalize cF.enc ((rtP w k).getD 0 (0, 1)) = v at g e
      generalize cF.enc r = u at e ⊢
      generalize rtD w k = y at g ⊢
      unfold eV
      cases b <;> simp [oStep, g, e]
    have n1 := ne_nil_c ok_F (by decide) ((rtP w k).filter fun r => !decide (r = (rtP w k).getD 0 (0, 1)))
    rw [fil_all (fun r => decide (r = (rtP w k).getD 0 (0, 1))) (rtP w k)] at n1
    have n1 : dCmp .ne (.list (((rtP w k).filter fun r => !decide (r = (rtP w k).getD 0 (0, 1))).map cF.enc)) (.list []) = some (!evB w k) := n1
    have it : items (rtD w k) = some ((rtP w k).map cF.enc) := rfl
    generalize ((rtP w k).filter fun r => !decide (r = (rtP w k).getD 0 (0, 1))).map cF.enc = v at ci n1
    generalize evB w k = b at n1 ⊢
    generalize (rtP w k).map cF.enc = u at it ci
    generalize rtD w k = y at it ci ⊢
    unfold eV at ci ⊢
    simp only [List.set] at ci
    cases b <;> simp [oStep, it, ci, n1]
  have e1 := eq_nil_c (c := cL cF) (ok_L ok_F) (by decide) (((List.range w.length).filter fun k => !evB w k).map (rtP w))
  rw [List.map_map, List.isEmpty_map, fil_all (evB w)] at e1
  have e1 : dCmp .eq (.list (((List.range w.length).filter fun k => !evB w k).map (rtD w))) (.list []) = some (evP w) := e1
  have it : ∀ ys : List D, items (.list ys) = some ys := fun _ => rfl
  generalize evP w = b at e1 ⊢
  generalize ((List.range w.length).filter fun k => !evB w k).map (rtD w) = v at cc e1
  generalize (List.range w.length).map (rtD w) = u at cc ⊢
  unfold eV at cc ⊢
  simp [law_B0_s8, esc, escs, escS, it, cc, e1]
def dueV (w : Wal) (xt : List Int) (s : Int) : D := .tuple [cLd.enc (lod0 w), cLd.enc (lodP xt w), hvD (hvP w), (cT cF).enc (ftP w), (cT cPr).enc (crP w s), .bool (evP w)]
theorem k9 (hw : WOk wide w) (hx : okX w xt = true) (hs : 0 ≤ s ∧ s ≤ 100) : ex optM C0 SS G0 law_B0_s9 (eV t s3 (.sh (cW.enc w)) (.sh (cLd.enc (lod0 w))) (.sh (cC.enc xt)) (.sh (.int s)) (.sh (hvD (hvP w))) .no .no (.sh ((cT cF).enc (ftP w))) s12 (.sh (.bool (evP w))) .no .no .no .no .no .no) = some (.nx (eV t s3 (.sh (cW.enc w)) (.sh (cLd.enc (lod0 w))) (.sh (cC.enc xt)) (.sh (.int s)) (.sh (hvD (hvP w))) .no .no (.sh ((cT cF).enc (ftP w))) s12 (.sh (.bool (evP w))) (.sh (dueV w xt s)) .no .no .no .no .no)) := by
  have e1 := SS_law_loads hw hx
  have e2 := SS_law_crushed (s := s) hw hs
  unfold dueV
  generalize cLd.enc (lodP xt w) = v1 at e1 ⊢
  generalize (cT cPr).enc (crP w s) = v2 at e2 ⊢
  generalize hvD (hvP w) = v3
  generalize (cT cF).enc (ftP w) = v4
  generalize cLd.enc (lod0 w) = v5
  generalize cC.enc xt = y at e1 ⊢
  generalize cW.enc w = x at e1 e2 ⊢
  simp [law_B0_s9, eV, esc, escs, e1, e2]
theorem hv_psz (b : Option (Fr2 × Nat × Nat)) : shal 9 (hvD b) = true ∧ psz (hvD b) ≤ 10 := by
  cases b with
  | none => exact ⟨rfl, by decide⟩
  | some z => exact ⟨rfl, by show 3 + (1 + (1 + 0)) + 1 ≤ 10; decide⟩
theorem due_ok (hw : WOk wide w) (hx : okX w xt = true) : okSame (dueV w xt s) = true := by
  have hl := hw.len
  unfold okSame
  rw [Bool.and_eq_true]
  constructor
  · show ([cLd.enc (lod0 w), cLd.enc (lodP xt w), hvD (hvP w), (cT cF).enc (ftP w), (cT cPr).enc (crP w s), PyData.bool (evP w)].all (shal 9)) = true
    simp only [List.all_cons, List.all_nil, sh9 ok_Ld (by decide), sh9 ok_Fs (by decide), sh9 ok_Ps (by decide), (hv_psz (hvP w)).1, Bool.and_true, Bool.true_and]
    rfl
  · have h1 : psz (cLd.enc (lod0 w)) ≤ 25 * w.length + 1 := psz_Ld hw (zer_ok w)
    have h2 := psz_Ld hw hx
    have h3 := (hv_psz (hvP w)).2
    have h4 := ft_len hw
    have h5 := cr_len (s := s) hw
    refine decide_eq_true ?_
    unfold dueV
    simp only [psz, pszs, psz_Fs, psz_Ps]
    omega
theorem k10 (hw : WOk wide w) (hx : okX w xt = true) (hs : 0 ≤ s ∧ s ≤ 100) : ex optM C0 SS G0 law_B0_s10 (eV t s3 (.sh (cW.enc w)) s5 (.sh (cC.enc xt)) (.sh (.int s)) s8 s9 s10 s11 s12 s13 (.sh (dueV w xt s)) s15 s17 s18 s19 s20) = some (.nx (eV t s3 (.sh (cW.enc w)) s5 (.sh (cC.enc xt)) (.sh (.int s)) s8 s9 s10 s11 s12 s13 (.sh (dueV w xt s)) s15 s17 s18 s19 s20)) := by
  have e1 := SS_loads_of hw
  have e2 := SS_pressed hw hx
  have e3 := SS_heaviest_load hw
  have e4 := SS_foot_loads hw
  have e5 := SS_crushed (s := s) hw hs
  have e6 := SS_evenly_borne hw
  have e7 := SS_law_same (due_ok (s := s) hw hx)
  have ed : dueV w xt s = .tuple [cLd.enc (lod0 w), cLd.enc (lodP xt w), hvD (hvP w), (cT cF).enc (ftP w), (cT cPr).enc (crP w s), .bool (evP w)] := rfl
  generalize hd : dueV w xt s = d at e7 ⊢
  rw [hd] at ed
  generalize cLd.enc (lodP xt w) = v1 at e2 ed
  generalize (cT cPr).enc (crP w s) = v2 at e5 ed
  generalize hvD (hvP w) = v3 at e3 ed
  generalize (cT cF).enc (ftP w) = v4 at e4 ed
  generalize cLd.enc (lod0 w) = v5 at e1 ed
  generalize evP w = v6 at e6 ed
  generalize cC.enc xt = y at e2 ⊢
  generalize cW.enc w = x at e1 e2 e3 e4 e5 e6 ⊢
  simp [law_B0_s10, eV, esc, escs, e1, e2, e3, e4, e5, e6, ← ed, e7]
theorem k11 : ex optM C0 SS G0 law_B0_s11 (eV t s3 s4 s5 s6 s7 s8 .no .no s11 s12 s13 s14 .no .no .no .no .no) = some (.nx (eV t s3 s4 s5 s6 s7 s8 .no .no s11 s12 s13 s14 (.sh (cF.enc (0, 1))) .no .no .no .no)) := by
  have e : cF.enc (0, 1) = .tuple [.int 0, .int 1] := rfl
  rw [e]
  simp [law_B0_s11, eV, esc, escs]
theorem k12 (hw : WOk wide w) : ex optM C0 SS G0 law_B0_s12 (eV t s3 s4 s5 s6 s7 s8 .no .no (.sh ((cT cF).enc (ftP w))) s12 s13 s14 (.sh (cF.enc (0, 1))) .no .no .no .no) = some (.nx (eV t s3 s4 s5 s6 s7 s8 .no .no (.sh ((cT cF).enc (ftP w))) s12 s13 s14 (.sh (cF.enc (ftot (ftP w)))) .no .no .no .no)) := by
  have h0 : 0 < w.length := by have := hw.len; omega
  have pp := pd hw h0
  have kf := forL_fold (g := fBody C0 SS G0 (.nm 16) law_B2) (ρ0 := eV t s3 s4 s5 s6 s7 s8 .no .no (.sh ((cT cF).enc (ftP w))) s12 s13 s14 (.sh (cF.enc (0, 1))) .no .no .no .no) cF.enc
    (fun q => eV t s3 s4 s5 s6 s7 s8 .no .no (.sh ((cT cF).enc (ftP w))) s12 s13 s14 (.sh (cF.enc q)) .no .no .no .no) fadd (fun q xs => Dn q (prodL (w.drop 1)) ∧ ∀ x ∈ xs, Dn x (prodL (w.drop 1))) ?_ (ftP w) (0, 1) ⟨dn_int 0, fun x hx => by
      obtain ⟨n, _, rfl⟩ := List.mem_map.mp hx
      exact dn_add (ld_dn (ex := zer w) hw h0 n) (dn_int _) pp.1⟩
  · have ez : (ftP w).foldl fadd (0, 1) = ftot (ftP w) := rfl
    rw [ez] at kf
    have it : items ((cT cF).enc (ftP w)) = some ((ftP w).map cF.enc) := rfl
    have ef : frz (escF (.val (.var 11))) (eV t s3 s4 s5 s6 s7 s8 .no .no (.sh ((cT cF).enc (ftP w))) s12 s13 s14 (.sh (cF.enc (0, 1))) .no .no .no .no) = eV t s3 s4 s5 s6 s7 s8 .no .no (.sh ((cT cF).enc (ftP w))) s12 s13 s14 (.sh (cF.enc (0, 1))) .no .no .no .no := by
      generalize cF.enc (0, 1) = v
      generalize (cT cF).enc (ftP w) = x
      simp [eV, escF, esc, escs]
    have eg : ∀ v x : D, getV (eV t s3 s4 s5 s6 s7 s8 .no .no (.sh x) s12 s13 s14 (.sh v) .no .no .no .no) 11 = some x := fun v x => rfl
    unfold law_B0_s12
    rw [x_for, ef, oS_val, o_var, eg]
    simp only [Option.bind_some, it]
    exact kf
  · rintro q x xs ⟨hq, hx⟩
    have hx1 := hx x (by simp)
    have e := SS_law_plus (ok_add hq hx1 pp.1 pp.1 pp.2 pp.2)
    have sl : ∀ e : E, slotOf e (cF.enc (fadd q x)) = .sh (cF.enc (fadd q x)) := fun e => slot_tup
    have sl2 : ∀ e : E, slotOf e (cF.enc x) = .sh (cF.enc x) := fun e => slot_tup
    refine ⟨⟨(eV t s3 s4 s5 s6 s7 s8 .no .no (.sh ((cT cF).enc (ftP w))) s12 s13 s14 (.sh (cF.enc (fadd q x))) .no .no .no .no).set 16 (.sh (cF.enc x)), ?_, by simp [eV]⟩, dn_add hq hx1 pp.1, fun y hy => hx y (by simp [hy])⟩
    unfold eV
    generalize cF.enc (fadd q x) = v at e sl ⊢
    generalize cF.enc x = u at e sl2 ⊢
    generalize cF.enc q = z at e ⊢
    generalize (cT cF).enc (ftP w) = y
    simp [fBody, law_B2, law_B2_s0, esc, escs, e, sl]
theorem k13 (hw : WOk wide w) : ex optM C0 SS G0 law_B0_s13 (eV t (.sh (.int wide)) (.sh (cW.enc w)) s5 s6 s7 s8 .no .no s11 s12 s13 s14 (.sh (cF.enc (ftot (ftP w)))) .no .no .no .no) = some (.nx (eV t (.sh (.int wide)) (.sh (cW.enc w)) s5 s6 s7 s8 .no .no s11 s12 s13 s14 (.sh (cF.enc (ftot (ftP w)))) .no .no .no .no)) := by
  rw [foot_law hw]
  have il := w_len w
  have sm : PV.small64 wide = true := sm_abs (by have := hw.wd; omega)
  have n1 := ne_F (wide * w.length, 1)
  rw [show cF.enc (wide * (w.length : Int), 1) = .tuple [.int (wide * (w.length : Int)), .int 1] from rfl] at n1 ⊢
  generalize (w.length : Int) = nn at il n1 ⊢
  generalize cW.enc w = x at il ⊢
  generalize hv : PyData.tuple [.int (wide * nn), .int 1] = v at n1 ⊢
  simp [law_B0_s13, eV, esc, escs, il, sm, hv, n1]
end
end PW

set_option maxHeartbeats 4000000
/-! What bears what: courses by draws; how high two courses stand. -/
namespace PW
open PySem PySem.W PyProof.Rows L2 PV
/-- a course by draws -/
def gCourse : List D → W D := fun ds R => ∃ wide : Int, ds = [.int wide] ∧ (1 ≤ wide ∧ wide ≤ 8) ∧ ∀ c, CrOk wide c → R (cC.enc c)
theorem Wr.course {wide : Int} {Q : D → Prop} (hw : 1 ≤ wide ∧ wide ≤ 8) (h : ∀ c, CrOk wide c → Wr (Q (cC.enc c))) : Wr (gCourse [.int wide] Q) := Wr.mk ⟨wide, rfl, hw, fun c hc => (h c hc).out⟩
def GG : Nat → List D → W D
  | 4 => gNext
  | 10 => gPick2
  | 13 => gCourse
  | _ => fun _ _ => False
abbrev FF : Nat → List D → W D := fun n ds => ofO (SS n ds)
@[simp] theorem GG_next {ds : List D} {Q : D → Prop} : GG id_law_next ds Q = gNext ds Q := rfl
@[simp] theorem GG_pick {ds : List D} {Q : D → Prop} : GG id_law_pick ds Q = gPick2 ds Q := rfl
theorem GG_course {ds : List D} {Q : D → Prop} : GG id_law_course ds Q = gCourse ds Q := rfl
theorem hw_law_pick : ∀ ds R, GG id_law_pick ds R → exs wM C0 FF GG b_law_pick (.no :: (ds.map Slot.sh ++ List.replicate (n_law_pick.length - (1 + ds.length)) Slot.no)) fun f => (match f with
    | .nx _ => wM.pure PyData.none
    | .rt d => wM.pure d
    | .bk _ => wM.fail) R := by
  rintro ds R ⟨xs, e, h1, h2⟩
  rcases e with rfl | rfl <;>
  · unfold b_law_pick
    rw [WXs_cons]
    simp [esc, escs]
    refine ⟨h1, fun j j0 j1 => ?_⟩
    obtain ⟨k, rfl⟩ := Int.eq_ofNat_of_zero_le j0
    have hk : k < xs.length := by omega
    exact ⟨_, atI_get hk, h2 _ (List.getElem_mem hk)⟩
theorem wf_cons {s : S} {r : Ss} {ρ ρ' : PV.Env} {R : Fl → Prop} (h : ex optM C0 SS G0 s ρ = some (.nx ρ')) (q : Wr (exs wM C0 FF GG r ρ' R)) : Wr (exs wM C0 FF GG (.cons s r) ρ R) := Wr.cons h q
theorem wr_call {f : Nat} {ds : List D} {v : D} {Q : D → Prop} (h : SS f ds = some v) (q : Wr (Q v)) : Wr (FF f ds Q) := Wr.mk ⟨v, h, q.out⟩
theorem wf_ev {e : E} {d : D} {ρ : PV.Env} {Q : D → Prop} (h : ev optM C0 SS G0 e ρ = some d) (q : Wr (Q d)) : Wr (ev wM C0 FF GG e ρ Q) := Wr.mk (w_ev h q.out)
def eC (wide : Int) (c : Crs) (left : Int) (s4 : PV.Slot) : PV.Env := [.no, .sh (.int wide), .sh (cC.enc c), .sh (.int left), s4]
theorem hw_law_course : ∀ ds R, GG id_law_course ds R → exs wM C0 FF GG b_law_course (.no :: (ds.map Slot.sh ++ List.replicate (n_law_course.length - (1 + ds.length)) Slot.no)) fun f => (match f with
    | .nx _ => wM.pure PyData.none
    | .rt d => wM.pure d
    | .bk _ => wM.fail) R := by
  rintro ds R ⟨wide, rfl, hw, h⟩
  refine Wr.out ?_
  show Wr (exs wM C0 FF GG b_law_course [.no, .sh (.int wide), .no, .no, .no] _)
  unfold b_law_course
  refine wf_cons (ρ' := eC wide [] wide .no) ?_ ?_
  · have e : cC.enc [] = .tuple [] := rfl
    unfold eC
    rw [e]
    simp [esc, escs, setAll]
  rw [WXs_cons]
  have ef : ∀ c left s4, frz (esc true (.cmp .gt (.var 3) (.int 0))) (eC wide c left s4) = eC wide c left s4 := fun c left s4 => by
    unfold eC
    generalize cC.enc c = x
    simp [esc, escs]
  refine whl_R (fun n ρ => ∃ c left, ρ = eC wide c left .no ∧ left = (n : Int) ∧ c.sum + left = wide ∧ ∀ l ∈ c, 1 ≤ l ∧ l ≤ 4) ⟨wide.toNat, [], wide, by rw [ef], by omega, by simp, by simp⟩ fun n ρ1 hJ => ?_
  have hJ : ∃ c left, ρ1 = eC wide c left .no ∧ left = (n : Int) ∧ c.sum + left = wide ∧ ∀ l ∈ c, 1 ≤ l ∧ l ≤ 4 := hJ
  obtain ⟨c, left, e1, e2, e3, hc⟩ := hJ
  subst e1
  have hlen : c.length ≤ 8 := by
    have := sum_len c hc
    omega
  refine ⟨decide (0 < left), by simp [eC], fun hb Q hQ => ?_, fun hb => ?_⟩
  · have hb : 0 < left := by simpa using hb
    unfold law_course_B0
    rw [WXs_cons, WX_asg]
    have ef1 : frz (esc false (.mn (.var 3) (.bin .add (.int 1) (.callw id_law_next (.cons (.int 4) .nil))))) (eC wide c left .no) = eC wide c left .no := by
      unfold eC
      generalize cC.enc c = x
      simp [esc, escs]
    have g3 : ∀ s4, getV (eC wide c left s4) 3 = some (.int left) := fun s4 => rfl
    rw [ef1, W_mn, W_var]
    refine Wr.ex _ (g3 _) ?_
    rw [W_bin, W_int, W_callw, Ws_cons, W_int, Ws_nil, GG_next]
    refine Wr.next (by decide) fun j j0 j1 => ?_
    refine Wr.ex (.int (1 + j)) rfl ?_
    refine Wr.ex (.int (mn left (1 + j))) rfl ?_
    rw [fl3_nx]
    have hm : 1 ≤ mn left (1 + j) ∧ mn left (1 + j) ≤ 4 ∧ mn left (1 + j) ≤ left := by unfold mn; split <;> omega
    generalize mn left (1 + j) = l at hm ⊢
    have hlen2 : (c.map cInt.enc).length + 1 ≤ LINE := by simp; unfold LINE; omega
    refine wf_cons (ρ' := eC wide (c ++ [l]) (left - l) (.sh (.int l))) ?_ ?_
    · skip
      unfold eC
      simp only [e_C, List.map_append, List.map_cons, List.map_nil]
      generalize c.map cInt.enc = y at hlen2 ⊢
      simp [esc, escs, setAll, hlen2]
    · rw [WXs_nil]
      have em : msk (frz (esc true (.cmp .gt (.var 3) (.int 0))) (eC wide [] wide .no)) (eC wide (c ++ [l]) (left - l) (.sh (.int l))) = eC wide (c ++ [l]) (left - l) .no := by
        rw [ef]
        simp [eC]
      refine hQ _ ⟨(left - l).toNat, by omega, c ++ [l], left - l, by rw [em, ef], by omega, ?_, fun x hx => ?_⟩
      · rw [List.sum_append]
        simp only [List.sum_cons, List.sum_nil]
        omega
      · rcases List.mem_append.mp hx with hx | hx
        · exact hc x hx
        · rw [List.mem_singleton.mp hx]
          omega
  · have hb : ¬ 0 < left := by simpa using hb
    have hl0 : left = 0 := by omega
    rw [fl3_nx, WXs_cons, WX_ret]
    have ef2 : frz (esc false (.var 2)) (eC wide c left .no) = eC wide c left .no := by
      unfold eC
      generalize cC.enc c = x
      simp [esc, escs]
    have g2 : ∀ x : D, getV [.no, .sh (.int wide), .sh x, .sh (.int left), .no] 2 = some x := fun x => rfl
    rw [ef2, W_var]
    refine Wr.ex _ (g2 (cC.enc c)) ?_
    rw [fl3_rt]
    exact Wr.mk (h c ⟨by omega, hc⟩)
section
variable {t wide s : Int} {w : Wal} {xt : List Int} {a b : Crs} {h k n : Nat}
variable {s3 s4 s5 s6 s7 s8 s9 s10 s11 s12 s13 s14 s15 s17 s18 s19 s20 : PV.Slot}
theorem alt_comp2 (a b : Crs) (h : Nat) (s20 : PV.Slot) : compL optM (oStep C0 SS G0 (.nm 9) .yes (.ife (.cmp .eq (.bin .mul (.bin .fdiv (.var 9) (.int 2)) (.int 2)) (.var 9)) (.var 18) (.var 19)) (eV t s3 s4 s5 s6 s7 s8 .no s10 s11 s12 s13 s14 s15 s17 (.sh (cC.enc a)) (.sh (cC.enc b)) s20)) ((List.range h).map cNat.enc) = some ((altW a b h).map cC.enc) := by
  rw [alt_enc]
  refine compL_all fun k _ => ?_
  have hm : (k : Int).fdiv 2 = ((k / 2 : Nat) : Int) := by rw [Int.fdiv_eq_ediv_of_nonneg _ (by decide)]; omega
  show oStep _ _ _ _ _ _ _ (.int (k : Int)) = _
  unfold eV
  generalize cC.enc a = x
  generalize cC.enc b = y
  by_cases c : k % 2 = 0
  · rw [if_pos c]
    have c' : (k : Int).fdiv 2 * 2 = k := by omega
    simp [oStep, c']
  · rw [if_neg c]
    have c' : ¬ (k : Int).fdiv 2 * 2 = k := by omega
    simp [oStep, c']
theorem k16 (hw : 1 ≤ wide ∧ wide ≤ 8) (ha : CrOk wide a) (hb : CrOk wide b) (hs : 0 ≤ s ∧ s ≤ 100) : ∃ h : Nat, h ≤ 9 ∧ (∀ j, j < h → crP (altW a b (j + 1)) s = []) ∧ (h < 9 → crP (altW a b (h + 1)) s ≠ []) ∧ ex optM C0 SS G0 law_B0_s16 (eV t s3 s4 s5 s6 (.sh (.int s)) s8 s9 s10 s11 s12 s13 s14 s15 s17 (.sh (cC.enc a)) (.sh (cC.enc b)) (.sh (.int 0))) = some (.nx (eV t s3 s4 s5 s6 (.sh (.int s)) s8 s9 s10 s11 s12 s13 s14 s15 s17 (.sh (cC.enc a)) (.sh (cC.enc b)) (.sh (.int h)))) := by
  have cond : ∀ h : Nat, h ≤ 9 → ev optM C0 SS G0 (.and (.cmp .lt (.var 20) (.int 9)) (.cmp .eq (.call id_law_crushed (.cons (.bi .tuple (.comp [9] (.nm 9) (.r1 (.bin .add (.var 20) (.int 1))) .yes (.ife (.cmp .eq (.bin .mul (.bin .fdiv (.var 9) (.int 2)) (.int 2)) (.var 9)) (.var 18) (.var 19)))) (.cons (.var 7) .nil))) (.tup .nil))) (eV t s3 s4 s5 s6 (.sh (.int s)) s8 s9 s10 s11 s12 s13 s14 s15 s17 (.sh (cC.enc a)) (.sh (cC.enc b)) (.sh (.int h))) = some (.bool (decide (h < 9) && (crP (altW a b (h + 1)) s).isEmpty)) := fun h h9 => by
    by_cases c : h < 9
    · have cc := alt_comp2 (t := t) (s3 := s3) (s4 := s4) (s5 := s5) (s6 := s6) (s7 := .sh (.int s)) (s8 := s8) (s10 := s10) (s11 := s11) (s12 := s12) (s13 := s13) (s14 := s14) (s15 := s15) (s17 := s17) a b (h + 1) (.sh (.int h))
      have e1 := SS_law_crushed (s := s) (alt_ok hw ha hb (h := h + 1) (by omega)) hs
      have n1 := cr_eq (crP (altW a b (h + 1)) s)
      have ok : okR 0 ((h : Int) + 1) = true := okR_nat (n := h + 1) (by omega)
      have er : rng 0 ((h : Int) + 1) = (List.range (h + 1)).map cNat.enc := rng_nat (h + 1)
      have et : dBi .tuple (.list ((altW a b (h + 1)).map cC.enc)) = some (cW.enc (altW a b (h + 1))) := rfl
      have c' : (h : Int) < 9 := by omega
      generalize (crP (altW a b (h + 1)) s).isEmpty = em at n1 ⊢
      generalize (cT cPr).enc (crP (altW a b (h + 1)) s) = v at e1 n1
      generalize cW.enc (altW a b (h + 1)) = u at e1 et
      generalize (altW a b (h + 1)).map cC.enc = q at cc et
      generalize (List.range (h + 1)).map cNat.enc = r at er cc
      unfold eV at cc ⊢
      generalize cC.enc a = x at cc ⊢
      generalize cC.enc b = y at cc ⊢
      simp [c, c', ok, er, cc, et, e1, n1]
    · have c' : ¬ (h : Int) < 9 := by omega
      unfold eV
      generalize cC.enc a = x
      generalize cC.enc b = y
      simp [c, c']
  have ef : ∀ h : Nat, frz (esc true (.and (.cmp .lt (.var 20) (.int 9)) (.cmp .eq (.call id_law_crushed (.cons (.bi .tuple (.comp [9] (.nm 9) (.r1 (.bin .add (.var 20) (.int 1))) .yes (.ife (.cmp .eq (.bin .mul (.bin .fdiv (.var 9) (.int 2)) (.int 2)) (.var 9)) (.var 18) (.var 19)))) (.cons (.var 7) .nil))) (.tup .nil)))) (eV t s3 s4 s5 s6 (.sh (.int s)) s8 s9 s10 s11 s12 s13 s14 s15 s17 (.sh (cC.enc a)) (.sh (cC.enc b)) (.sh (.int h))) = eV t s3 s4 s5 s6 (.sh (.int s)) s8 s9 s10 s11 s12 s13 s14 s15 s17 (.sh (cC.enc a)) (.sh (cC.enc b)) (.sh (.int h)) := fun h => by
    unfold eV
    generalize cC.enc a = x
    generalize cC.enc b = y
    simp [esc, escs, escS]
  have key := whO_go (step := wBody C0 SS G0 (.and (.cmp .lt (.var 20) (.int 9)) (.cmp .eq (.call id_law_crushed (.cons (.bi .tuple (.comp [9] (.nm 9) (.r1 (.bin .add (.var 20) (.int 1))) .yes (.ife (.cmp .eq (.bin .mul (.bin .fdiv (.var 9) (.int 2)) (.int 2)) (.var 9)) (.var 18) (.var 19)))) (.cons (.var 7) .nil))) (.tup .nil))) law_B1 (eV t s3 s4 s5 s6 (.sh (.int s)) s8 s9 s10 s11 s12 s13 s14 s15 s17 (.sh (cC.enc a)) (.sh (cC.enc b)) (.sh (.int (0 : Nat))))) (fun h : Nat => eV t s3 s4 s5 s6 (.sh (.int s)) s8 s9 s10 s11 s12 s13 s14 s15 s17 (.sh (cC.enc a)) (.sh (cC.enc b)) (.sh (.int h))) (fun h => 9 - h) (fun h => h + 1) (fun h => decide (h < 9) && (crP (altW a b (h + 1)) s).isEmpty) (fun h => h ≤ 9 ∧ ∀ j, j < h → crP (altW a b (j + 1)) s = []) (fun h hI => ?_) _ 0 (Nat.le_refl _) ⟨by omega, by simp⟩
  · obtain ⟨h, k1, k2, k3⟩ := key
    refine ⟨h, k2.1, k2.2, fun h9 => ?_, ?_⟩
    · intro e
      simp only [e, h9] at k3
      simp at k3
    · unfold law_B0_s16
      have ez : ((0 : Nat) : Int) = 0 := rfl
      rw [x_whl, show (PyData.int 0) = .int ((0 : Nat) : Int) from rfl, ef 0]
      exact k1
  · have hc := cond h hI.1
    refine ⟨fun e => ?_, fun e => ?_⟩
    · rw [e] at hc
      simp only [Bool.and_eq_true, decide_eq_true_eq, List.isEmpty_iff] at e
      refine ⟨?_, ⟨by omega, fun j hj => ?_⟩, by omega⟩
      · rw [wBody_go (ρ' := eV t s3 s4 s5 s6 (.sh (.int s)) s8 s9 s10 s11 s12 s13 s14 s15 s17 (.sh (cC.enc a)) (.sh (cC.enc b)) (.sh (.int ((h + 1 : Nat) : Int)))) hc (by
          unfold eV
          generalize cC.enc a = x
          generalize cC.enc b = y
          simp [law_B1, law_B1_s0, esc, escs])]
        have em : msk (eV t s3 s4 s5 s6 (.sh (.int s)) s8 s9 s10 s11 s12 s13 s14 s15 s17 (.sh (cC.enc a)) (.sh (cC.enc b)) (.sh (.int (0 : Nat)))) (eV t s3 s4 s5 s6 (.sh (.int s)) s8 s9 s10 s11 s12 s13 s14 s15 s17 (.sh (cC.enc a)) (.sh (cC.enc b)) (.sh (.int ((h + 1 : Nat) : Int)))) = eV t s3 s4 s5 s6 (.sh (.int s)) s8 s9 s10 s11 s12 s13 s14 s15 s17 (.sh (cC.enc a)) (.sh (cC.enc b)) (.sh (.int ((h + 1 : Nat) : Int))) := by simp [eV]
        rw [em, ef]
      · rcases Nat.lt_or_ge j h with q | q
        · exact hI.2 j q
        · have : j = h := by omega
          rw [this]
          exact e.2
    · rw [e] at hc
      exact wBody_end hc
theorem k17 (hw : 1 ≤ wide ∧ wide ≤ 8) (ha : CrOk wide a) (hb : CrOk wide b) (hs : 0 ≤ s ∧ s ≤ 100) (h9 : h ≤ 9) (h1 : ∀ j, j < h → crP (altW a b (j + 1)) s = []) (h2 : h < 9 → crP (altW a b (h + 1)) s ≠ []) : ex optM C0 SS G0 law_B0_s17 (eV t s3 s4 s5 s6 (.sh (.int s)) s8 s9 s10 s11 s12 s13 s14 s15 s17 (.sh (cC.enc a)) (.sh (cC.enc b)) (.sh (.int h))) = some (.nx (eV t s3 s4 s5 s6 (.sh (.int s)) s8 s9 s10 s11 s12 s13 s14 s15 s17 (.sh (cC.enc a)) (.sh (cC.enc b)) (.sh (.int h)))) := by
  by_cases c : h < 9
  · obtain ⟨q1, q2⟩ := hi_law hw ha hb hs c h1 (h2 c)
    have e1 := SS_highest_laid q2
    rw [q1] at e1
    have e1 : SS id_highest_laid [cC.enc a, cC.enc b, .int s] = some (.int h) := e1
    have e2 := SS_law_same (d := .int h) rfl
    have c' : (h : Int) < 9 := by omega
    unfold eV
    generalize cC.enc a = x at e1 ⊢
    generalize cC.enc b = y at e1 ⊢
    simp [law_B0_s17, esc, escs, c', e1, e2]
  · have c' : ¬ (h : Int) < 9 := by omega
    unfold eV
    generalize cC.enc a = x
    generalize cC.enc b = y
    simp [law_B0_s17, esc, escs, c']
end
end PW

set_option maxHeartbeats 4000000
/-! What bears what: the draws. -/
namespace PW
open PySem PySem.W PyProof.Rows L2 PV
def E0 : PV.Env := [.no, .no, .no, .no, .no, .no, .no, .no, .no, .no, .no, .no, .no, .no, .no, .no, .no, .no, .no, .no, .no, .no, .no]
section
variable {t wide s : Int} {R' : Fl → Prop} {rest : Ss} {w : Wal} {xt : List Int} {k n : Nat}
variable {s3 s4 s5 s6 s7 s8 s9 s10 s11 s12 s13 s14 s15 s17 s18 s19 s20 : PV.Slot}
theorem w0 (h : ∀ wide : Int, 1 ≤ wide ∧ wide ≤ 8 → Wr (exs wM C0 FF GG rest (eV t (.sh (.int wide)) .no .no .no .no .no .no .no .no .no .no .no .no .no .no .no .no) R')) : Wr (exs wM C0 FF GG (.cons law_B0_s0 rest) (E0.set 2 (.sh (.int t))) R') := by
  rw [WXs_cons]
  unfold law_B0_s0
  rw [WX_asg]
  have ef : frz (esc false (.bin .add (.int 1) (.callw id_law_next (.cons (.int 8) .nil)))) (E0.set 2 (.sh (.int t))) = E0.set 2 (.sh (.int t)) := by simp [E0, esc, escs]
  rw [ef, W_bin, W_int, W_callw, Ws_cons, W_int, Ws_nil, GG_next]
  refine Wr.next (by decide) fun j j0 j1 => ?_
  refine Wr.ex (.int (1 + j)) rfl ?_
  rw [fl3_nx]
  exact h (1 + j) (by omega)
theorem w1 (hw : 1 ≤ wide ∧ wide ≤ 8) (h : ∀ w : Wal, w.length ≤ 4 → WOk wide w → Wr (exs wM C0 FF GG rest (eV t (.sh (.int wide)) (.sh (cW.enc w)) .no .no .no .no .no .no .no .no .no .no .no .no .no .no .no) R')) : Wr (exs wM C0 FF GG (.cons law_B0_s1 rest) (eV t (.sh (.int wide)) .no .no .no .no .no .no .no .no .no .no .no .no .no .no .no .no) R') := by
  rw [WXs_cons]
  unfold law_B0_s1
  rw [WX_asg]
  have ef : frz (esc false (.bi .tuple (.comp [9] (.nm 9) (.r1 (.bin .add (.int 1) (.callw id_law_next (.cons (.int 4) .nil)))) .yes (.callw id_law_course (.cons (.var 3) .nil))))) (eV t (.sh (.int wide)) .no .no .no .no .no .no .no .no .no .no .no .no .no .no .no .no) = eV t (.sh (.int wide)) .no .no .no .no .no .no .no .no .no .no .no .no .no .no .no .no := by simp [eV, escS, esc, escs]
  have ew : wip [9] (eV t (.sh (.int wide)) .no .no .no .no .no .no .no .no .no .no .no .no .no .no .no .no) = eV t (.sh (.int wide)) .no .no .no .no .no .no .no .no .no .no .no .no .no .no .no .no := by simp [eV]
  rw [ef, W_bi, W_comp, ew, WS_r1, W_bin, W_int, W_callw, Ws_cons, W_int, Ws_nil, GG_next]
  refine Wr.next (by decide) fun j j0 j1 => ?_
  refine Wr.ex (.int (1 + j)) rfl (Wr.ex (1 + j) rfl (Wr.and (by unfold okR LINE; exact decide_eq_true (by omega)) ?_))
  refine compL_R (fun i ys => ∃ u : Wal, ys = u.map cC.enc ∧ u.length = i ∧ ∀ c ∈ u, CrOk wide c) (fun i x ys hx hI R2 hR => ?_) ⟨[], rfl, rfl, by simp⟩ (fun zs hI => ?_)
  · have hI : ∃ u : Wal, ys = u.map cC.enc ∧ u.length = i ∧ ∀ c ∈ u, CrOk wide c := hI
    obtain ⟨u, e, hl, ha⟩ := hI
    have hxx : ∃ k : Int, x = .int k := by
      have := List.mem_of_getElem? hx
      rw [rng_map] at this
      obtain ⟨k, _, e⟩ := List.mem_map.mp this
      exact ⟨_, e.symm⟩
    obtain ⟨k, rfl⟩ := hxx
    have g3 : getV ((eV t (.sh (.int wide)) .no .no .no .no .no .no .no .no .no .no .no .no .no .no .no .no).set 9 (.sh (.int k))) 3 = some (.int wide) := rfl
    rw [oStepW_yes (ρ' := (eV t (.sh (.int wide)) .no .no .no .no .no .no .no .no .no .no .no .no .no .no .no .no).set 9 (.sh (.int k))) rfl, W_callw, Ws_cons, W_var]
    refine Wr.ex _ g3 ?_
    rw [Ws_nil, GG_course]
    refine Wr.course hw fun c hc => ?_
    refine hR _ ⟨u ++ [c], by rw [e, List.map_append]; rfl, by simp [hl], fun d hd => ?_⟩
    rcases List.mem_append.mp hd with hd | hd
    · exact ha d hd
    · rw [List.mem_singleton.mp hd]
      exact hc
  · have hI : ∃ u : Wal, zs = u.map cC.enc ∧ u.length = (rng 0 (1 + j)).length ∧ ∀ c ∈ u, CrOk wide c := hI
    obtain ⟨u, e, hl, ha⟩ := hI
    rw [rng_map, List.length_map, List.length_range] at hl
    subst e
    have et : dBi .tuple (.list (u.map cC.enc)) = some (cW.enc u) := rfl
    refine Wr.ex _ et ?_
    rw [fl3_nx]
    exact h u (by omega) (wok_of hw (by omega) ha)
theorem rep_wal (h : WOk wide w) (hl : w.length ≤ 4) : dBin .mul (.tuple [cC.enc (atC w 0)]) (.int w.length) = some (cW.enc (List.replicate w.length (atC w 0))) ∧ WOk wide (List.replicate w.length (atC w 0)) := by
  have h1 := h.len
  refine ⟨?_, wok_of h.wd (by rw [List.length_replicate]; omega) fun c hc => by rw [List.eq_of_mem_replicate hc]; exact h.cr (by omega)⟩
  generalize atC w 0 = c
  rcases (show w.length = 1 ∨ w.length = 2 ∨ w.length = 3 ∨ w.length = 4 by omega) with e | e | e | e <;> rw [e] <;> rfl
theorem w2 (hw : WOk wide w) (hl : w.length ≤ 4) (h : ∀ w : Wal, w.length ≤ 4 → WOk wide w → Wr (exs wM C0 FF GG rest (eV t s3 (.sh (cW.enc w)) .no .no .no .no .no .no .no .no .no .no .no .no .no .no .no) R')) : Wr (exs wM C0 FF GG (.cons law_B0_s2 rest) (eV t s3 (.sh (cW.enc w)) .no .no .no .no .no .no .no .no .no .no .no .no .no .no .no) R') := by
  obtain ⟨e1, e2⟩ := rep_wal hw hl
  have h1 := hw.len
  have c1 : cut (w.map cC.enc) none (some 1) = [cC.enc (atC w 0)] := by
    have e : cut (w.map cC.enc) none (some ((1 : Nat) : Int)) = (w.take 1).map cC.enc := by rw [cut_to, List.map_take]
    have e3 : w.take 1 = [atC w 0] := by
      have := drop_at (w := w) (k := 0) (by omega)
      rw [List.drop_zero] at this
      rw [this]
      rfl
    rw [e3] at e
    exact e
  have ev3 : ev optM C0 SS G0 (.bin .mul (.sl (.var 4) .none (.int 1)) (.bi .len (.var 4))) (eV t s3 (.sh (cW.enc w)) .no .no .no .no .no .no .no .no .no .no .no .no .no .no .no) = some (cW.enc (List.replicate w.length (atC w 0))) := by
    have il := w_len w
    generalize cW.enc (List.replicate w.length (atC w 0)) = v at e1 ⊢
    unfold eV
    simp only [e_W] at il ⊢
    generalize w.map cC.enc = y at c1 il ⊢
    generalize (w.length : Int) = nn at il e1
    generalize cC.enc (atC w 0) = c at c1 e1
    simp [bound?, c1, e1, il]
  rw [WXs_cons]
  unfold law_B0_s2
  rw [WX_asg]
  have ef : frz (esc false (.callw id_law_pick (.cons (.lst (.cons (.var 4) (.cons (.var 4) (.cons (.bin .mul (.sl (.var 4) .none (.int 1)) (.bi .len (.var 4))) .nil)))) .nil))) (eV t s3 (.sh (cW.enc w)) .no .no .no .no .no .no .no .no .no .no .no .no .no .no .no) = eV t s3 (.sh (cW.enc w)) .no .no .no .no .no .no .no .no .no .no .no .no .no .no .no := by
    generalize cW.enc w = x
    simp [eV, esc, escs]
  have g4 : ∀ x : D, getV (eV t s3 (.sh x) .no .no .no .no .no .no .no .no .no .no .no .no .no .no .no) 4 = some x := fun x => rfl
  rw [ef, W_callw, Ws_cons, W_lst, Ws_cons, W_var]
  refine Wr.ex _ (g4 _) ?_
  rw [Ws_cons, W_var]
  refine Wr.ex _ (g4 _) ?_
  rw [Ws_cons]
  refine wf_ev ev3 ?_
  rw [Ws_nil, Ws_nil, GG_pick]
  refine Wr.pick2 (by simp) fun x hx => ?_
  have hc : ∃ u : Wal, x = cW.enc u ∧ u.length ≤ 4 ∧ WOk wide u := by
    simp only [List.mem_cons, List.not_mem_nil, or_false] at hx
    rcases hx with e | e | e
    · exact ⟨w, e, hl, hw⟩
    · exact ⟨w, e, hl, hw⟩
    · exact ⟨_, e, by rw [List.length_replicate]; exact hl, e2⟩
  obtain ⟨u, e, u1, u2⟩ := hc
  subst e
  have hq := h u u1 u2
  have sl : ∀ e : E, slotOf e (cW.enc u) = .sh (cW.enc u) := fun e => slot_tup
  generalize cW.enc u = v at hq sl ⊢
  generalize cW.enc w = z
  rw [fl3_nx, sl]
  exact hq
theorem w3 (hw : WOk wide w) (h : ∀ (xt : List Int) (s : Int), okX w xt = true → (0 ≤ s ∧ s ≤ 100) → Wr (exs wM C0 FF GG rest (eV t s3 (.sh (cW.enc w)) (.sh (cLd.enc (lod0 w))) (.sh (cC.enc xt)) (.sh (.int s)) .no .no .no .no .no .no .no .no .no .no .no .no) R')) : Wr (exs wM C0 FF GG (.cons law_B0_s3 rest) (eV t s3 (.sh (cW.enc w)) .no .no .no .no .no .no .no .no .no .no .no .no .no .no .no) R') := by
  have gl := w_last hw
  have ev1 : ev optM C0 SS G0 (.call id_law_loads (.cons (.var 4) (.cons (.bin .mul (.tup (.cons (.int 0) .nil)) (.bi .len (.ix (.var 4) (.neg (.int 1))))) .nil))) (eV t s3 (.sh (cW.enc w)) .no .no .no .no .no .no .no .no .no .no .no .no .no .no .no) = some (cLd.enc (lod0 w)) := by
    have il := c_len (w.getLastD [])
    have em := zer_mul hw.ll
    have e : SS id_law_loads [cW.enc w, cC.enc (List.replicate (w.getLastD []).length 0)] = some (cLd.enc (lod0 w)) := SS_law_loads hw (zer_ok w)
    generalize cLd.enc (lod0 w) = v at e ⊢
    generalize cC.enc (List.replicate (w.getLastD []).length 0) = u at em e
    generalize ((w.getLastD []).length : Int) = nn at il em
    generalize cC.enc (w.getLastD []) = q at gl il
    unfold eV
    generalize cW.enc w = x at gl e ⊢
    simp [gl, il, em, e]
  have ev2 : ev optM C0 SS G0 (.ix (.var 4) (.neg (.int 1))) (eV t s3 (.sh (cW.enc w)) .no .no .no .no .no .no .no .no .no .no .no .no .no .no .no) = some (cC.enc (w.getLastD [])) := by
    generalize cC.enc (w.getLastD []) = q at gl ⊢
    unfold eV
    generalize cW.enc w = x at gl ⊢
    simp [gl]
  rw [WXs_cons]
  unfold law_B0_s3
  rw [WX_asgp]
  have ef : frz (escs (.cons (.call id_law_loads (.cons (.var 4) (.cons (.bin .mul (.tup (.cons (.int 0) .nil)) (.bi .len (.ix (.var 4) (.neg (.int 1))))) .nil))) (.cons (.bi .tuple (.comp [22] (.nm 22) (.val (.ix (.var 4) (.neg (.int 1)))) .yes (.callw id_law_next (.cons (.int 5) .nil)))) (.cons (.callw id_law_next (.cons (.int 4) .nil)) .nil)))) (eV t s3 (.sh (cW.enc w)) .no .no .no .no .no .no .no .no .no .no .no .no .no .no .no) = eV t s3 (.sh (cW.enc w)) .no .no .no .no .no .no .no .no .no .no .no .no .no .no .no := by
    generalize cW.enc w = x
    simp [eV, escS, esc, escs]
  have ew : wip [22] (eV t s3 (.sh (cW.enc w)) .no .no .no .no .no .no .no .no .no .no .no .no .no .no .no) = eV t s3 (.sh (cW.enc w)) .no .no .no .no .no .no .no .no .no .no .no .no .no .no .no := by simp [eV]
  rw [ef, Ws_cons]
  refine wf_ev ev1 ?_
  rw [Ws_cons, W_bi, W_comp, ew, WS_val]
  refine wf_ev ev2 ?_
  refine Wr.ex ((w.getLastD []).map cInt.enc) rfl ?_
  refine compL_R (fun i ys => ∃ u : List Int, ys = u.map cInt.enc ∧ u.length = i ∧ ∀ x ∈ u, 0 ≤ x ∧ x ≤ 4) (fun i x ys hxi hI R2 hR => ?_) ⟨[], rfl, rfl, by simp⟩ (fun zs hI => ?_)
  · have hI : ∃ u : List Int, ys = u.map cInt.enc ∧ u.length = i ∧ ∀ x ∈ u, 0 ≤ x ∧ x ≤ 4 := hI
    obtain ⟨u, e, hl, ha⟩ := hI
    rw [oStepW_yes (ρ' := (eV t s3 (.sh (cW.enc w)) .no .no .no .no .no .no .no .no .no .no .no .no .no .no .no).set 22 (.sh x)) rfl, W_callw, Ws_cons, W_int, Ws_nil, GG_next]
    refine Wr.next (by decide) fun a a0 a1 => ?_
    refine hR _ ⟨u ++ [a], by rw [e, List.map_append]; rfl, by simp [hl], fun x hx => ?_⟩
    rcases List.mem_append.mp hx with hx | hx
    · exact ha x hx
    · rw [List.mem_singleton.mp hx]
      omega
  · have hI : ∃ u : List Int, zs = u.map cInt.enc ∧ u.length = ((w.getLastD []).map cInt.enc).length ∧ ∀ x ∈ u, 0 ≤ x ∧ x ≤ 4 := hI
    obtain ⟨u, e, hl, ha⟩ := hI
    rw [List.length_map] at hl
    subst e
    have et : dBi .tuple (.list (u.map cInt.enc)) = some (cC.enc u) := rfl
    refine Wr.ex _ et ?_
    rw [Ws_cons, W_callw, Ws_cons, W_int, Ws_nil, GG_next]
    refine Wr.next (by decide) fun j j0 j1 => ?_
    rw [Ws_nil]
    have hq := h u j (by
      simp only [okX, Bool.and_eq_true, decide_eq_true_eq, List.all_eq_true]
      exact ⟨hl, ha⟩) (by omega)
    have sl1 : ∀ e : E, slotOf e (cLd.enc (lod0 w)) = .sh (cLd.enc (lod0 w)) := fun e => slot_tup
    have sl2 : ∀ e : E, slotOf e (cC.enc u) = .sh (cC.enc u) := fun e => slot_tup
    generalize cLd.enc (lod0 w) = x1 at hq sl1 ⊢
    generalize cC.enc u = x2 at hq sl2 ⊢
    generalize cW.enc w = x at hq ⊢
    refine Wr.ex _ (show setAll _ _ _ _ = some (eV t s3 (.sh x) (.sh x1) (.sh x2) (.sh (.int j)) .no .no .no .no .no .no .no .no .no .no .no .no) by simp [setAll, eV, sl1, sl2]) ?_
    rw [fl3_nx]
    exact hq
theorem same_F (p : Fr2) : okSame (cF.enc p) = true := rfl
theorem w14 (hw : WOk wide w) (hl4 : w.length ≤ 4) (h : ∀ s9 s10 s17 : PV.Slot, Wr (exs wM C0 FF GG rest (eV t s3 (.sh (cW.enc w)) s5 s6 s7 s8 s9 s10 s11 s12 s13 s14 s15 s17 .no .no .no) R')) : Wr (exs wM C0 FF GG (.cons law_B0_s14 rest) (eV t s3 (.sh (cW.enc w)) s5 s6 s7 s8 .no .no s11 s12 s13 s14 s15 .no .no .no .no) R') := by
  have il := w_len w
  have hl := hw.len
  rw [WXs_cons]
  unfold law_B0_s14
  rw [WX_ite]
  have ef : frz (esc true (.cmp .gt (.bi .len (.var 4)) (.int 1))) (eV t s3 (.sh (cW.enc w)) s5 s6 s7 s8 .no .no s11 s12 s13 s14 s15 .no .no .no .no) = eV t s3 (.sh (cW.enc w)) s5 s6 s7 s8 .no .no s11 s12 s13 s14 s15 .no .no .no .no := by
    generalize cW.enc w = x
    simp [eV, esc, escs]
  have e0 : ev optM C0 SS G0 (.cmp .gt (.bi .len (.var 4)) (.int 1)) (eV t s3 (.sh (cW.enc w)) s5 s6 s7 s8 .no .no s11 s12 s13 s14 s15 .no .no .no .no) = some (.bool (decide (1 < (w.length : Int)))) := by
    generalize (w.length : Int) = nn at il ⊢
    unfold eV
    generalize cW.enc w = x at il ⊢
    simp [il]
  rw [ef]
  refine wf_ev e0 ?_
  refine Wr.ex (decide (1 < (w.length : Int))) rfl ?_
  by_cases c : 1 < (w.length : Int)
  · rw [if_pos (by simpa using c)]
    rw [WXs_cons, WX_asg]
    have ef1 : frz (esc false (.bin .add (.int 1) (.callw id_law_next (.cons (.bin .sub (.bi .len (.var 4)) (.int 1)) .nil)))) (eV t s3 (.sh (cW.enc w)) s5 s6 s7 s8 .no .no s11 s12 s13 s14 s15 .no .no .no .no) = eV t s3 (.sh (cW.enc w)) s5 s6 s7 s8 .no .no s11 s12 s13 s14 s15 .no .no .no .no := by
      generalize cW.enc w = x
      simp [eV, esc, escs]
    have g4 : ∀ (x : D) (s9 s10 : PV.Slot), getV (eV t s3 (.sh x) s5 s6 s7 s8 s9 s10 s11 s12 s13 s14 s15 .no .no .no .no) 4 = some x := fun x _ _ => rfl
    rw [ef1, W_bin, W_int, W_callw, Ws_cons, W_bin, W_bi, W_var]
    refine Wr.ex _ (g4 _ _ _) ?_
    refine Wr.ex _ il ?_
    rw [W_int]
    refine Wr.ex (.int ((w.length : Int) - 1)) rfl ?_
    rw [Ws_nil, GG_next]
    refine Wr.next (by omega) fun j j0 j1 => ?_
    obtain ⟨j, rfl⟩ := Int.eq_ofNat_of_zero_le j0
    refine Wr.ex (.int ((j : Int) + 1)) (by rw [Int.add_comm]; rfl) ?_
    rw [fl3_nx]
    show Wr (exs wM C0 FF GG _ (eV t s3 (.sh (cW.enc w)) s5 s6 s7 s8 (.sh (.int ((j : Int) + 1))) .no s11 s12 s13 s14 s15 .no .no .no .no) _)
    have hj : j + 1 < w.length := by omega
    have g1 := w_at (w := w) (k := j + 1) hj
    rw [show ((j + 1 : Nat) : Int) = (j : Int) + 1 by omega] at g1
    have g2 := w_at (w := w) (k := j) (by omega)
    have c1 := hw.cl hj
    have c2' := hw.cl (k := j) (by omega)
    have ev1 : ev optM C0 SS G0 (.bi .len (.ix (.var 4) (.var 9))) (eV t s3 (.sh (cW.enc w)) s5 s6 s7 s8 (.sh (.int ((j : Int) + 1))) .no s11 s12 s13 s14 s15 .no .no .no .no) = some (.int (atC w (j + 1)).length) := by
      have q := c_len (atC w (j + 1))
      generalize ((atC w (j + 1)).length : Int) = nn at q ⊢
      generalize cC.enc (atC w (j + 1)) = y at g1 q
      unfold eV
      generalize cW.enc w = x at g1 ⊢
      simp [g1, q]
    have ev2 : ev optM C0 SS G0 (.bi .len (.ix (.var 4) (.bin .sub (.var 9) (.int 1)))) (eV t s3 (.sh (cW.enc w)) s5 s6 s7 s8 (.sh (.int ((j : Int) + 1))) .no s11 s12 s13 s14 s15 .no .no .no .no) = some (.int (atC w j).length) := by
      have q := c_len (atC w j)
      generalize ((atC w j).length : Int) = nn at q ⊢
      generalize cC.enc (atC w j) = y at g2 q
      unfold eV
      generalize cW.enc w = x at g2 ⊢
      simp [g2, q]
    rw [WXs_cons, WX_asgp]
    have ef2 : frz (escs (.cons (.callw id_law_next (.cons (.bi .len (.ix (.var 4) (.var 9))) .nil)) (.cons (.callw id_law_next (.cons (.bi .len (.ix (.var 4) (.bin .sub (.var 9) (.int 1)))) .nil)) .nil))) (eV t s3 (.sh (cW.enc w)) s5 s6 s7 s8 (.sh (.int ((j : Int) + 1))) .no s11 s12 s13 s14 s15 .no .no .no .no) = eV t s3 (.sh (cW.enc w)) s5 s6 s7 s8 (.sh (.int ((j : Int) + 1))) .no s11 s12 s13 s14 s15 .no .no .no .no := by
      generalize cW.enc w = x
      simp [eV, esc, escs]
    rw [ef2, Ws_cons, W_callw, Ws_cons]
    refine wf_ev ev1 ?_
    rw [Ws_nil, GG_next]
    refine Wr.next (by omega) fun n n0 n1 => ?_
    obtain ⟨n, rfl⟩ := Int.eq_ofNat_of_zero_le n0
    rw [Ws_cons, W_callw, Ws_cons]
    refine wf_ev ev2 ?_
    rw [Ws_nil, GG_next]
    refine Wr.next (by omega) fun m m0 m1 => ?_
    obtain ⟨m, rfl⟩ := Int.eq_ofNat_of_zero_le m0
    rw [Ws_nil]
    refine Wr.ex (eV t s3 (.sh (cW.enc w)) s5 s6 s7 s8 (.sh (.int ((j : Int) + 1))) (.sh (.int n)) s11 s12 s13 s14 s15 (.sh (.int m)) .no .no .no) (by
      generalize cW.enc w = x
      simp [setAll, eV]) ?_
    rw [fl3_nx]
    have hn : n < (atC w (j + 1)).length := by omega
    have hm : m < (atC w j).length := by omega
    have e1 := SS_shared (n := n) (m := m) hw hj hn hm
    have e2 := SS_law_ends (c := atC w (j + 1)) (by omega)
    have e3 := SS_law_ends (c := atC w j) (by omega)
    have g3 := lends_at (c := atC w (j + 1)) hn
    have g5 := lends_at (c := atC w j) hm
    have e4 := SS_law_part (a := endAt (atC w (j + 1)) n) (b := endAt (atC w j) m) (part_ok (hw.cr hj) hn)
    have e5 := SS_law_same (same_F (partP (endAt (atC w (j + 1)) n) (endAt (atC w j) m)))
    refine wf_cons (ρ' := eV t s3 (.sh (cW.enc w)) s5 s6 s7 s8 (.sh (.int ((j : Int) + 1))) (.sh (.int n)) s11 s12 s13 s14 s15 (.sh (.int m)) .no .no .no) ?_ ?_
    · generalize cF.enc (partP (endAt (atC w (j + 1)) n) (endAt (atC w j) m)) = v at e1 e4 e5
      generalize cF.enc (endAt (atC w (j + 1)) n) = v1 at g3 e4
      generalize cF.enc (endAt (atC w j) m) = v2 at g5 e4
      generalize (endsP (atC w (j + 1))).map cF.enc = y1 at e2 g3
      generalize (endsP (atC w j)).map cF.enc = y2 at e3 g5
      generalize cC.enc (atC w (j + 1)) = c1 at g1 e2
      generalize cC.enc (atC w j) = c2' at g2 e3
      unfold eV
      generalize cW.enc w = x at g1 g2 e1 ⊢
      simp [esc, escs, g1, g2, e1, e2, e3, g3, g5, e4, e5]
    · rw [WXs_nil, fl3_nx]
      exact h _ _ _
  · rw [if_neg (by simpa using c)]
    rw [WXs_nil, fl3_nx]
    exact h _ _ _
theorem w15 (hw : 1 ≤ wide ∧ wide ≤ 8) (h : ∀ a b : Crs, CrOk wide a → CrOk wide b → Wr (exs wM C0 FF GG rest (eV t (.sh (.int wide)) s4 s5 s6 s7 s8 s9 s10 s11 s12 s13 s14 s15 s17 (.sh (cC.enc a)) (.sh (cC.enc b)) (.sh (.int 0))) R')) : Wr (exs wM C0 FF GG (.cons law_B0_s15 rest) (eV t (.sh (.int wide)) s4 s5 s6 s7 s8 s9 s10 s11 s12 s13 s14 s15 s17 .no .no .no) R') := by
  rw [WXs_cons]
  unfold law_B0_s15
  rw [WX_asgp]
  have ef : frz (escs (.cons (.callw id_law_course (.cons (.var 3) .nil)) (.cons (.callw id_law_course (.cons (.var 3) .nil)) (.cons (.int 0) .nil)))) (eV t (.sh (.int wide)) s4 s5 s6 s7 s8 s9 s10 s11 s12 s13 s14 s15 s17 .no .no .no) = eV t (.sh (.int wide)) s4 s5 s6 s7 s8 s9 s10 s11 s12 s13 s14 s15 s17 .no .no .no := by simp [eV, esc, escs]
  have g3 : getV (eV t (.sh (.int wide)) s4 s5 s6 s7 s8 s9 s10 s11 s12 s13 s14 s15 s17 .no .no .no) 3 = some (.int wide) := rfl
  rw [ef, Ws_cons, W_callw, Ws_cons, W_var]
  refine Wr.ex _ g3 ?_
  rw [Ws_nil, GG_course]
  refine Wr.course hw fun a ha => ?_
  rw [Ws_cons, W_callw, Ws_cons, W_var]
  refine Wr.ex _ g3 ?_
  rw [Ws_nil, GG_course]
  refine Wr.course hw fun b hb => ?_
  rw [Ws_cons, W_int, Ws_nil]
  have hq := h a b ha hb
  have sl1 : ∀ e : E, slotOf e (cC.enc a) = .sh (cC.enc a) := fun e => slot_tup
  have sl2 : ∀ e : E, slotOf e (cC.enc b) = .sh (cC.enc b) := fun e => slot_tup
  generalize cC.enc a = x at hq sl1 ⊢
  generalize cC.enc b = y at hq sl2 ⊢
  refine Wr.ex _ (show setAll _ _ _ _ = some (eV t (.sh (.int wide)) s4 s5 s6 s7 s8 s9 s10 s11 s12 s13 s14 s15 s17 (.sh x) (.sh y) (.sh (.int 0))) by simp [setAll, eV, sl1, sl2]) ?_
  rw [fl3_nx]
  exact hq
end
theorem law_turn (t : Int) (R : Fl → Prop) (h : ∀ ρ', msk E0 ρ' = E0 → Wr (R (.nx ρ'))) : Wr (exs wM C0 FF GG law_B0 (E0.set 2 (.sh (.int t))) R) := by
  unfold law_B0
  refine w0 fun wide hw => ?_
  refine w1 hw fun w hl hk => ?_
  refine w2 hk hl fun w hl hk => ?_
  refine w3 hk fun xt s hx hs => ?_
  refine wf_cons k4 (wf_cons (k5 hk) (wf_cons (k6 hk) (wf_cons (k7 hk) (wf_cons (k8 hk) (wf_cons (k9 hk hx hs) (wf_cons (k10 hk hx hs) (wf_cons k11 (wf_cons (k12 hk) (wf_cons (k13 hk) ?_)))))))))
  refine w14 hk hl fun s9 s10 s17 => ?_
  refine w15 hw fun a b ha hb => ?_
  obtain ⟨hh, h9, h1, h2, e16⟩ := k16 (t := t) (s3 := .sh (.int wide)) (s4 := .sh (cW.enc w)) (s5 := .sh (cLd.enc (lod0 w))) (s6 := .sh (cC.enc xt)) (s8 := .sh (hvD (hvP w))) (s9 := s9) (s10 := s10) (s11 := .sh ((cT cF).enc (ftP w))) (s12 := .ow (.list ((List.range w.length).map (rtD w)))) (s13 := .sh (.bool (evP w))) (s14 := .sh (dueV w xt s)) (s15 := .sh (cF.enc (ftot (ftP w)))) (s17 := s17) hw ha hb hs
  refine wf_cons e16 (wf_cons (k17 hw ha hb hs h9 h1 h2) ?_)
  rw [WXs_nil]
  exact h _ (by simp [eV, E0])
theorem hlaw : exs wM C0 FF GG b_law (List.replicate n_law.length Slot.no) fun g => g = .rt (.bool true) := by
  refine Wr.out ?_
  unfold b_law
  rw [WXs_cons]
  unfold b_law_s0
  rw [WX_for, WS_r1, W_int]
  have ef : frz (escF (.r1 (.int 3))) (List.replicate n_law.length Slot.no) = E0 := rfl
  rw [ef]
  refine Wr.ex 3 rfl (Wr.and (by decide) ?_)
  refine forL_R (fun i ρ => ρ = E0) (fun i x ρ hx hI R hR => ?_) rfl (fun ρ' hI => ?_)
  · have hI : ρ = E0 := hI
    subst hI
    have hxx : ∃ k : Int, x = .int k := by
      have := List.mem_of_getElem? hx
      rw [rng_map] at this
      obtain ⟨k, _, e⟩ := List.mem_map.mp this
      exact ⟨_, e.symm⟩
    obtain ⟨k, e⟩ := hxx
    subst e
    rw [fBodyW_eq (ρ' := E0.set 2 (.sh (.int k))) rfl]
    exact law_turn k R hR
  · have hI : ρ' = E0 := hI
    subst hI
    unfold b_law_s1
    rw [fl3_nx, WXs_cons, WX_ret]
    have ef : frz (esc false (.call id_law_same (.cons (.call id_highest_laid (.cons (.tup (.cons (.int 1) .nil)) (.cons (.tup (.cons (.int 1) .nil)) (.cons (.bin .add (.int 29) (.callw id_law_next (.cons (.int 9) .nil))) .nil)))) (.cons .none .nil)))) E0 = E0 := by simp [E0, esc, escs]
    rw [ef, W_call, Ws_cons, W_call, Ws_cons, W_tup, Ws_cons, W_int, Ws_nil, Ws_cons, W_tup, Ws_cons, W_int, Ws_nil, Ws_cons, W_bin, W_int, W_callw, Ws_cons, W_int, Ws_nil, GG_next]
    refine Wr.next (by decide) fun j j0 j1 => ?_
    refine Wr.ex (.int (29 + j)) rfl ?_
    rw [Ws_nil]
    have e1 := SS_highest_laid (ones_hi (s := 29 + j) (by omega))
    rw [ones_none (s := 29 + j) (by omega)] at e1
    have e1 : SS id_highest_laid [.tuple [.int 1], .tuple [.int 1], .int (29 + j)] = some .none := e1
    refine wr_call e1 ?_
    rw [Ws_cons, W_none, Ws_nil]
    refine wr_call (SS_law_same (d := .none) rfl) ?_
    rw [fl3_rt]
    exact Wr.mk rfl
end PW

set_option maxHeartbeats 4000000
/-! The table of the defs, the head. -/
namespace PW
open PySem PyProof.Rows L2 PV
structure All (K : PySem.W.Frag) (mg : Str → Option Value) : Prop where
  blt : ∀ x ∈ bltN, mg x = none
  a_common : Has K mg "common" s_common
  a_is_less : Has K mg "is_less" s_is_less
  a_ends_of : Has K mg "ends_of" s_ends_of
  a_law_draws : Has K mg "_law_draws" s_law_draws
  a_law_next : Has K mg "_law_next" s_law_next
  a_law_same : Has K mg "_law_same" s_law_same
  a_law_fraction : Has K mg "_law_fraction" s_law_fraction
  a_law_less : Has K mg "_law_less" s_law_less
  a_law_ends : Has K mg "_law_ends" s_law_ends
  a_fraction : Has K mg "fraction" s_fraction
  a_law_pick : Has K mg "_law_pick" s_law_pick
  a_law_plus : Has K mg "_law_plus" s_law_plus
  a_law_times : Has K mg "_law_times" s_law_times
  a_law_course : Has K mg "_law_course" s_law_course
  a_law_part : Has K mg "_law_part" s_law_part
  a_plus : Has K mg "plus" s_plus
  a_times : Has K mg "times" s_times
  a_parted : Has K mg "parted" s_parted
  a_shared : Has K mg "shared" s_shared
  a_law_loads : Has K mg "_law_loads" s_law_loads
  a_total : Has K mg "total" s_total
  a_by_length : Has K mg "by_length" s_by_length
  a_law_crushed : Has K mg "_law_crushed" s_law_crushed
  a_pressed : Has K mg "pressed" s_pressed
  a_loads_of : Has K mg "loads_of" s_loads_of
  a_heaviest_load : Has K mg "heaviest_load" s_heaviest_load
  a_foot_loads : Has K mg "foot_loads" s_foot_loads
  a_crushed : Has K mg "crushed" s_crushed
  a_evenly_borne : Has K mg "evenly_borne" s_evenly_borne
  a_highest_laid : Has K mg "highest_laid" s_highest_laid
  a_law : Has K mg "law" s_law
section
variable {PG : Program} {W0 : World} {K : PySem.W.Frag} {mg : Str → Option Value} {base : Heap}
theorem md_common (A : All K mg) : Md PG W0 K mg base ⟨C0, (fun n ds => ofO (SS n ds)), GG, none, 1000⟩ f_common g_common 0 where
  blt := A.blt
  fns := fun f x n b h => by cases h
  hws := fun f x n h => by cases h
  gls := fun n x h => by cases h
theorem d_common (A : All K mg) : DefOk PG W0 K mg base 1 "common" (spF 2 (fun ds => ofO (SS id_common ds)) K) :=
  mk_pure (ps := ["a", "b"]) A.a_common (fun _ _ _ _ _ _ us hl => match us, hl with | [_, _], _ => rfl) (md_common A) sc_common (by decide) c_common r_common
theorem md_is_less (A : All K mg) : Md PG W0 K mg base ⟨C0, (fun n ds => ofO (SS n ds)), GG, none, 1000⟩ f_is_less g_is_less 0 where
  blt := A.blt
  fns := fun f x n b h => by cases h
  hws := fun f x n h => by cases h
  gls := fun n x h => by cases h
theorem d_is_less (A : All K mg) : DefOk PG W0 K mg base 1 "is_less" (spF 2 (fun ds => ofO (SS id_is_less ds)) K) :=
  mk_pure (ps := ["one", "other"]) A.a_is_less (fun _ _ _ _ _ _ us hl => match us, hl with | [_, _], _ => rfl) (md_is_less A) sc_is_less (by decide) c_is_less r_is_less
theorem md_ends_of (A : All K mg) : Md PG W0 K mg base ⟨C0, (fun n ds => ofO (SS n ds)), GG, none, 1000⟩ f_ends_of g_ends_of 0 where
  blt := A.blt
  fns := fun f x n b h => by cases h
  hws := fun f x n h => by cases h
  gls := fun n x h => by cases h
theorem d_ends_of (A : All K mg) : DefOk PG W0 K mg base 1 "ends_of" (spF 1 (fun ds => ofO (SS id_ends_of ds)) K) :=
  mk_pure (ps := ["course"]) A.a_ends_of (fun _ _ _ _ _ _ us hl => match us, hl with | [_], _ => rfl) (md_ends_of A) sc_ends_of (by decide) c_ends_of r_ends_of
theorem d_law_next (A : All K mg) : DefOk PG W0 K mg base 1 "_law_next" (spG 2 (GG id_law_next) K) := by
  obtain ⟨a, fd, h1, h2, F⟩ := A.a_law_next
  exact ⟨a, fd, _, h1, h2, F.binds (fun _ _ _ _ _ _ us hl => match us, hl with | [_, _], _ => rfl), ok_next F sc_law_next rfl (by decide +kernel) (A.blt _ (by decide)) (A.blt _ (by decide))⟩
theorem md_law_same (A : All K mg) : Md PG W0 K mg base ⟨C0, (fun n ds => ofO (SS n ds)), GG, none, 1000⟩ f_law_same g_law_same 0 where
  blt := A.blt
  fns := fun f x n b h => by cases h
  hws := fun f x n h => by cases h
  gls := fun n x h => by cases h
theorem d_law_same (A : All K mg) : DefOk PG W0 K mg base 1 "_law_same" (spF 2 (fun ds => ofO (SS id_law_same ds)) K) :=
  mk_pure (ps := ["seen", "due"]) A.a_law_same (fun _ _ _ _ _ _ us hl => match us, hl with | [_, _], _ => rfl) (md_law_same A) sc_law_same (by decide) c_law_same r_law_same
theorem md_law_fraction (A : All K mg) : Md PG W0 K mg base ⟨C0, (fun n ds => ofO (SS n ds)), GG, none, 1000⟩ f_law_fraction g_law_fraction 0 where
  blt := A.blt
  fns := fun f x n b h => by cases h
  hws := fun f x n h => by cases h
  gls := fun n x h => by cases h
theorem d_law_fraction (A : All K mg) : DefOk PG W0 K mg base 1 "_law_fraction" (spF 2 (fun ds => ofO (SS id_law_fraction ds)) K) :=
  mk_pure (ps := ["top", "under"]) A.a_law_fraction (fun _ _ _ _ _ _ us hl => match us, hl with | [_, _], _ => rfl) (md_law_fraction A) sc_law_fraction (by decide) c_law_fraction r_law_fraction
theorem md_law_less (A : All K mg) : Md PG W0 K mg base ⟨C0, (fun n ds => ofO (SS n ds)), GG, none, 1000⟩ f_law_less g_law_less 0 where
  blt := A.blt
  fns := fun f x n b h => by cases h
  hws := fun f x n h => by cases h
  gls := fun n x h => by cases h
theorem d_law_less (A : All K mg) : DefOk PG W0 K mg base 1 "_law_less" (spF 2 (fun ds => ofO (SS id_law_less ds)) K) :=
  mk_pure (ps := ["one", "other"]) A.a_law_less (fun _ _ _ _ _ _ us hl => match us, hl with | [_, _], _ => rfl) (md_law_less A) sc_law_less (by decide) c_law_less r_law_less
theorem md_law_ends (A : All K mg) : Md PG W0 K mg base ⟨C0, (fun n ds => ofO (SS n ds)), GG, none, 1000⟩ f_law_ends g_law_ends 0 where
  blt := A.blt
  fns := fun f x n b h => by cases h
  hws := fun f x n h => by cases h
  gls := fun n x h => by cases h
theorem d_law_ends (A : All K mg) : DefOk PG W0 K mg base 1 "_law_ends" (spF 1 (fun ds => ofO (SS id_law_ends ds)) K) :=
  mk_pure (ps := ["course"]) A.a_law_ends (fun _ _ _ _ _ _ us hl => match us, hl with | [_], _ => rfl) (md_law_ends A) sc_law_ends (by decide) c_law_ends r_law_ends
theorem md_fraction (A : All K mg) : Md PG W0 K mg base ⟨C0, (fun n ds => ofO (SS n ds)), GG, none, 1000⟩ f_fraction g_fraction 1 where
  blt := A.blt
  fns := by
    intro f x n b h
    simp only [f_fraction, List.mem_cons, List.not_mem_nil, or_false, Prod.mk.injEq] at h
    rcases h with ⟨rfl, rfl, rfl, rfl⟩
    · exact (d_common A).mono (by decide)
  hws := by
    intro f x n h
    simp [f_fraction] at h
  gls := fun n x h => by cases h
theorem d_fraction (A : All K mg) : DefOk PG W0 K mg base 2 "fraction" (spF 2 (fun ds => ofO (SS id_fraction ds)) K) :=
  mk_pure (ps := ["a", "b"]) A.a_fraction (fun _ _ _ _ _ _ us hl => match us, hl with | [_, _], _ => rfl) (md_fraction A) sc_fraction (by decide) c_fraction r_fraction
theorem md_law_pick (A : All K mg) (t : Addr × Addr × List Int) : Md PG W0 K mg base ⟨C0, (fun n ds => ofO (SS n ds)), GG, some t, 0⟩ f_law_pick g_law_pick 1 where
  blt := A.blt
  fns := by
    intro f x n b h
    simp only [f_law_pick, List.mem_cons, List.not_mem_nil, or_false, Prod.mk.injEq] at h
    rcases h with ⟨rfl, rfl, rfl, rfl⟩
    · exact (d_law_next A).mono (by decide)
  hws := fun _ _ _ _ => rfl
  gls := fun n x h => by cases h
theorem d_law_pick (A : All K mg) : DefOk PG W0 K mg base 2 "_law_pick" (spG 2 (GG id_law_pick) K) :=
  mk_w (ps := ["w", "rows"]) A.a_law_pick (fun _ _ _ _ _ _ us hl => match us, hl with | [_, _], _ => rfl) (fun t => md_law_pick A t) sc_law_pick (by decide) c_law_pick hw_law_pick
theorem md_law_plus (A : All K mg) : Md PG W0 K mg base ⟨C0, (fun n ds => ofO (SS n ds)), GG, none, 1000⟩ f_law_plus g_law_plus 1 where
  blt := A.blt
  fns := by
    intro f x n b h
    simp only [f_law_plus, List.mem_cons, List.not_mem_nil, or_false, Prod.mk.injEq] at h
    rcases h with ⟨rfl, rfl, rfl, rfl⟩
    · exact (d_law_fraction A).mono (by decide)
  hws := by
    intro f x n h
    simp [f_law_plus] at h
  gls := fun n x h => by cases h
theorem d_law_plus (A : All K mg) : DefOk PG W0 K mg base 2 "_law_plus" (spF 2 (fun ds => ofO (SS id_law_plus ds)) K) :=
  mk_pure (ps := ["one", "other"]) A.a_law_plus (fun _ _ _ _ _ _ us hl => match us, hl with | [_, _], _ => rfl) (md_law_plus A) sc_law_plus (by decide) c_law_plus r_law_plus
theorem md_law_times (A : All K mg) : Md PG W0 K mg base ⟨C0, (fun n ds => ofO (SS n ds)), GG, none, 1000⟩ f_law_times g_law_times 1 where
  blt := A.blt
  fns := by
    intro f x n b h
    simp only [f_law_times, List.mem_cons, List.not_mem_nil, or_false, Prod.mk.injEq] at h
    rcases h with ⟨rfl, rfl, rfl, rfl⟩
    · exact (d_law_fraction A).mono (by decide)
  hws := by
    intro f x n h
    simp [f_law_times] at h
  gls := fun n x h => by cases h
theorem d_law_times (A : All K mg) : DefOk PG W0 K mg base 2 "_law_times" (spF 2 (fun ds => ofO (SS id_law_times ds)) K) :=
  mk_pure (ps := ["one", "other"]) A.a_law_times (fun _ _ _ _ _ _ us hl => match us, hl with | [_, _], _ => rfl) (md_law_times A) sc_law_times (by decide) c_law_times r_law_times
theorem md_law_course (A : All K mg) (t : Addr × Addr × List Int) : Md PG W0 K mg base ⟨C0, (fun n ds => ofO (SS n ds)), GG, some t, 0⟩ f_law_course g_law_course 1 where
  blt := A.blt
  fns := by
    intro f x n b h
    simp only [f_law_course, List.mem_cons, List.not_mem_nil, or_false, Prod.mk.injEq] at h
    rcases h with ⟨rfl, rfl, rfl, rfl⟩
    · exact (d_law_next A).mono (by decide)
  hws := fun _ _ _ _ => rfl
  gls := fun n x h => by cases h
theorem d_law_course (A : All K mg) : DefOk PG W0 K mg base 2 "_law_course" (spG 2 (GG id_law_course) K) :=
  mk_w (ps := ["w", "wide"]) A.a_law_course (fun _ _ _ _ _ _ us hl => match us, hl with | [_, _], _ => rfl) (fun t => md_law_course A t) sc_law_course (by decide) c_law_course hw_law_course
theorem md_law_part (A : All K mg) : Md PG W0 K mg base ⟨C0, (fun n ds => ofO (SS n ds)), GG, none, 1000⟩ f_law_part g_law_part 1 where
  blt := A.blt
  fns := by
    intro f x n b h
    simp only [f_law_part, List.mem_cons, List.not_mem_nil, or_false, Prod.mk.injEq] at h
    rcases h with ⟨rfl, rfl, rfl, rfl⟩
    · exact (d_law_fraction A).mono (by decide)
  hws := by
    intro f x n h
    simp [f_law_part] at h
  gls := fun n x h => by cases h
theorem d_law_part (A : All K mg) : DefOk PG W0 K mg base 2 "_law_part" (spF 2 (fun ds => ofO (SS id_law_part ds)) K) :=
  mk_pure (ps := ["one", "other"]) A.a_law_part (fun _ _ _ _ _ _ us hl => match us, hl with | [_, _], _ => rfl) (md_law_part A) sc_law_part (by decide) c_law_part r_law_part
theorem md_plus (A : All K mg) : Md PG W0 K mg base ⟨C0, (fun n ds => ofO (SS n ds)), GG, none, 1000⟩ f_plus g_plus 2 where
  blt := A.blt
  fns := by
    intro f x n b h
    simp only [f_plus, List.mem_cons, List.not_mem_nil, or_false, Prod.mk.injEq] at h
    rcases h with ⟨rfl, rfl, rfl, rfl⟩
    · exact (d_fraction A).mono (by decide)
  hws := by
    intro f x n h
    simp [f_plus] at h
  gls := fun n x h => by cases h
theorem d_plus (A : All K mg) : DefOk PG W0 K mg base 3 "plus" (spF 2 (fun ds => ofO (SS id_plus ds)) K) :=
  mk_pure (ps := ["one", "other"]) A.a_plus (fun _ _ _ _ _ _ us hl => match us, hl with | [_, _], _ => rfl) (md_plus A) sc_plus (by decide) c_plus r_plus
theorem md_times (A : All K mg) : Md PG W0 K mg base ⟨C0, (fun n ds => ofO (SS n ds)), GG, none, 1000⟩ f_times g_times 2 where
  blt := A.blt
  fns := by
    intro f x n b h
    simp only [f_times, List.mem_cons, List.not_mem_nil, or_false, Prod.mk.injEq] at h
    rcases h with ⟨rfl, rfl, rfl, rfl⟩
    · exact (d_fraction A).mono (by decide)
  hws := by
    intro f x n h
    simp [f_times] at h
  gls := fun n x h => by cases h
theorem d_times (A : All K mg) : DefOk PG W0 K mg base 3 "times" (spF 2 (fun ds => ofO (SS id_times ds)) K) :=
  mk_pure (ps := ["one", "other"]) A.a_times (fun _ _ _ _ _ _ us hl => match us, hl with | [_, _], _ => rfl) (md_times A) sc_times (by decide) c_times r_times
theorem md_parted (A : All K mg) : Md PG W0 K mg base ⟨C0, (fun n ds => ofO (SS n ds)), GG, none, 1000⟩ f_parted g_parted 2 where
  blt := A.blt
  fns := by
    intro f x n b h
    simp only [f_parted, List.mem_cons, List.not_mem_nil, or_false, Prod.mk.injEq] at h
    rcases h with ⟨rfl, rfl, rfl, rfl⟩
    · exact (d_fraction A).mono (by decide)
  hws := by
    intro f x n h
    simp [f_parted] at h
  gls := fun n x h => by cases h
theorem d_parted (A : All K mg) : DefOk PG W0 K mg base 3 "parted" (spF 2 (fun ds => ofO (SS id_parted ds)) K) :=
  mk_pure (ps := ["one", "other"]) A.a_parted (fun _ _ _ _ _ _ us hl => match us, hl with | [_, _], _ => rfl) (md_parted A) sc_parted (by decide) c_parted r_parted
theorem md_shared (A : All K mg) : Md PG W0 K mg base ⟨C0, (fun n ds => ofO (SS n ds)), GG, none, 1000⟩ f_shared g_shared 2 where
  blt := A.blt
  fns := by
    intro f x n b h
    simp only [f_shared, List.mem_cons, List.not_mem_nil, or_false, Prod.mk.injEq] at h
    rcases h with ⟨rfl, rfl, rfl, rfl⟩ | ⟨rfl, rfl, rfl, rfl⟩
    · exact (d_ends_of A).mono (by decide)
    · exact (d_fraction A).mono (by decide)
  hws := by
    intro f x n h
    simp [f_shared] at h
  gls := fun n x h => by cases h
theorem d_shared (A : All K mg) : DefOk PG W0 K mg base 3 "shared" (spF 4 (fun ds => ofO (SS id_shared ds)) K) :=
  mk_pure (ps := ["wall", "k", "n", "m"]) A.a_shared (fun _ _ _ _ _ _ us hl => match us, hl with | [_, _, _, _], _ => rfl) (md_shared A) sc_shared (by decide) c_shared r_shared
theorem md_law_loads (A : All K mg) : Md PG W0 K mg base ⟨C0, (fun n ds => ofO (SS n ds)), GG, none, 1000⟩ f_law_loads g_law_loads 2 where
  blt := A.blt
  fns := by
    intro f x n b h
    simp only [f_law_loads, List.mem_cons, List.not_mem_nil, or_false, Prod.mk.injEq] at h
    rcases h with ⟨rfl, rfl, rfl, rfl⟩ | ⟨rfl, rfl, rfl, rfl⟩ | ⟨rfl, rfl, rfl, rfl⟩ | ⟨rfl, rfl, rfl, rfl⟩
    · exact (d_law_ends A).mono (by decide)
    · exact (d_law_plus A).mono (by decide)
    · exact (d_law_times A).mono (by decide)
    · exact (d_law_part A).mono (by decide)
  hws := by
    intro f x n h
    simp [f_law_loads] at h
  gls := fun n x h => by cases h
theorem d_law_loads (A : All K mg) : DefOk PG W0 K mg base 3 "_law_loads" (spF 2 (fun ds => ofO (SS id_law_loads ds)) K) :=
  mk_pure (ps := ["wall", "extra"]) A.a_law_loads (fun _ _ _ _ _ _ us hl => match us, hl with | [_, _], _ => rfl) (md_law_loads A) sc_law_loads (by decide) c_law_loads r_law_loads
theorem md_total (A : All K mg) : Md PG W0 K mg base ⟨C0, (fun n ds => ofO (SS n ds)), GG, none, 1000⟩ f_total g_total 3 where
  blt := A.blt
  fns := by
    intro f x n b h
    simp only [f_total, List.mem_cons, List.not_mem_nil, or_false, Prod.mk.injEq] at h
    rcases h with ⟨rfl, rfl, rfl, rfl⟩
    · exact (d_plus A).mono (by decide)
  hws := by
    intro f x n h
    simp [f_total] at h
  gls := fun n x h => by cases h
theorem d_total (A : All K mg) : DefOk PG W0 K mg base 4 "total" (spF 1 (fun ds => ofO (SS id_total ds)) K) :=
  mk_pure (ps := ["fractions"]) A.a_total (fun _ _ _ _ _ _ us hl => match us, hl with | [_], _ => rfl) (md_total A) sc_total (by decide) c_total r_total
theorem md_by_length (A : All K mg) : Md PG W0 K mg base ⟨C0, (fun n ds => ofO (SS n ds)), GG, none, 1000⟩ f_by_length g_by_length 3 where
  blt := A.blt
  fns := by
    intro f x n b h
    simp only [f_by_length, List.mem_cons, List.not_mem_nil, or_false, Prod.mk.injEq] at h
    rcases h with ⟨rfl, rfl, rfl, rfl⟩
    · exact (d_parted A).mono (by decide)
  hws := by
    intro f x n h
    simp [f_by_length] at h
  gls := fun n x h => by cases h
theorem d_by_length (A : All K mg) : DefOk PG W0 K mg base 4 "by_length" (spF 2 (fun ds => ofO (SS id_by_length ds)) K) :=
  mk_pure (ps := ["load", "long"]) A.a_by_length (fun _ _ _ _ _ _ us hl => match us, hl with | [_, _], _ => rfl) (md_by_length A) sc_by_length (by decide) c_by_length r_by_length
theorem md_law_crushed (A : All K mg) : Md PG W0 K mg base ⟨C0, (fun n ds => ofO (SS n ds)), GG, none, 1000⟩ f_law_crushed g_law_crushed 3 where
  blt := A.blt
  fns := by
    intro f x n b h
    simp only [f_law_crushed, List.mem_cons, List.not_mem_nil, or_false, Prod.mk.injEq] at h
    rcases h with ⟨rfl, rfl, rfl, rfl⟩ | ⟨rfl, rfl, rfl, rfl⟩
    · exact (d_law_less A).mono (by decide)
    · exact (d_law_loads A).mono (by decide)
  hws := by
    intro f x n h
    simp [f_law_crushed] at h
  gls := fun n x h => by cases h
theorem d_law_crushed (A : All K mg) : DefOk PG W0 K mg base 4 "_law_crushed" (spF 2 (fun ds => ofO (SS id_law_crushed ds)) K) :=
  mk_pure (ps := ["wall", "strength"]) A.a_law_crushed (fun _ _ _ _ _ _ us hl => match us, hl with | [_, _], _ => rfl) (md_law_crushed A) sc_law_crushed (by decide) c_law_crushed r_law_crushed
theorem md_pressed (A : All K mg) : Md PG W0 K mg base ⟨C0, (fun n ds => ofO (SS n ds)), GG, none, 1000⟩ f_pressed g_pressed 4 where
  blt := A.blt
  fns := by
    intro f x n b h
    simp only [f_pressed, List.mem_cons, List.not_mem_nil, or_false, Prod.mk.injEq] at h
    rcases h with ⟨rfl, rfl, rfl, rfl⟩ | ⟨rfl, rfl, rfl, rfl⟩ | ⟨rfl, rfl, rfl, rfl⟩ | ⟨rfl, rfl, rfl, rfl⟩
    · exact (d_plus A).mono (by decide)
    · exact (d_times A).mono (by decide)
    · exact (d_shared A).mono (by decide)
    · exact (d_total A).mono (by decide)
  hws := by
    intro f x n h
    simp [f_pressed] at h
  gls := fun n x h => by cases h
theorem d_pressed (A : All K mg) : DefOk PG W0 K mg base 5 "pressed" (spF 2 (fun ds => ofO (SS id_pressed ds)) K) :=
  mk_pure (ps := ["wall", "extra"]) A.a_pressed (fun _ _ _ _ _ _ us hl => match us, hl with | [_, _], _ => rfl) (md_pressed A) sc_pressed (by decide) c_pressed r_pressed
theorem md_loads_of (A : All K mg) : Md PG W0 K mg base ⟨C0, (fun n ds => ofO (SS n ds)), GG, none, 1000⟩ f_loads_of g_loads_of 5 where
  blt := A.blt
  fns := by
    intro f x n b h
    simp only [f_loads_of, List.mem_cons, List.not_mem_nil, or_false, Prod.mk.injEq] at h
    rcases h with ⟨rfl, rfl, rfl, rfl⟩
    · exact (d_pressed A).mono (by decide)
  hws := by
    intro f x n h
    simp [f_loads_of] at h
  gls := fun n x h => by cases h
theorem d_loads_of (A : All K mg) : DefOk PG W0 K mg base 6 "loads_of" (spF 1 (fun ds => ofO (SS id_loads_of ds)) K) :=
  mk_pure (ps := ["wall"]) A.a_loads_of (fun _ _ _ _ _ _ us hl => match us, hl with | [_], _ => rfl) (md_loads_of A) sc_loads_of (by decide) c_loads_of r_loads_of
theorem md_heaviest_load (A : All K mg) : Md PG W0 K mg base ⟨C0, (fun n ds => ofO (SS n ds)), GG, none, 1000⟩ f_heaviest_load g_heaviest_load 6 where
  blt := A.blt
  fns := by
    intro f x n b h
    simp only [f_heaviest_load, List.mem_cons, List.not_mem_nil, or_false, Prod.mk.injEq] at h
    rcases h with ⟨rfl, rfl, rfl, rfl⟩ | ⟨rfl, rfl, rfl, rfl⟩
    · exact (d_is_less A).mono (by decide)
    · exact (d_loads_of A).mono (by decide)
  hws := by
    intro f x n h
    simp [f_heaviest_load] at h
  gls := fun n x h => by cases h
theorem d_heaviest_load (A : All K mg) : DefOk PG W0 K mg base 7 "heaviest_load" (spF 1 (fun ds => ofO (SS id_heaviest_load ds)) K) :=
  mk_pure (ps := ["wall"]) A.a_heaviest_load (fun _ _ _ _ _ _ us hl => match us, hl with | [_], _ => rfl) (md_heaviest_load A) sc_heaviest_load (by decide) c_heaviest_load r_heaviest_load
theorem md_foot_loads (A : All K mg) : Md PG W0 K mg base ⟨C0, (fun n ds => ofO (SS n ds)), GG, none, 1000⟩ f_foot_loads g_foot_loads 6 where
  blt := A.blt
  fns := by
    intro f x n b h
    simp only [f_foot_loads, List.mem_cons, List.not_mem_nil, or_false, Prod.mk.injEq] at h
    rcases h with ⟨rfl, rfl, rfl, rfl⟩ | ⟨rfl, rfl, rfl, rfl⟩
    · exact (d_plus A).mono (by decide)
    · exact (d_loads_of A).mono (by decide)
  hws := by
    intro f x n h
    simp [f_foot_loads] at h
  gls := fun n x h => by cases h
theorem d_foot_loads (A : All K mg) : DefOk PG W0 K mg base 7 "foot_loads" (spF 1 (fun ds => ofO (SS id_foot_loads ds)) K) :=
  mk_pure (ps := ["wall"]) A.a_foot_loads (fun _ _ _ _ _ _ us hl => match us, hl with | [_], _ => rfl) (md_foot_loads A) sc_foot_loads (by decide) c_foot_loads r_foot_loads
theorem md_crushed (A : All K mg) : Md PG W0 K mg base ⟨C0, (fun n ds => ofO (SS n ds)), GG, none, 1000⟩ f_crushed g_crushed 6 where
  blt := A.blt
  fns := by
    intro f x n b h
    simp only [f_crushed, List.mem_cons, List.not_mem_nil, or_false, Prod.mk.injEq] at h
    rcases h with ⟨rfl, rfl, rfl, rfl⟩ | ⟨rfl, rfl, rfl, rfl⟩
    · exact (d_is_less A).mono (by decide)
    · exact (d_loads_of A).mono (by decide)
  hws := by
    intro f x n h
    simp [f_crushed] at h
  gls := fun n x h => by cases h
theorem d_crushed (A : All K mg) : DefOk PG W0 K mg base 7 "crushed" (spF 2 (fun ds => ofO (SS id_crushed ds)) K) :=
  mk_pure (ps := ["wall", "strength"]) A.a_crushed (fun _ _ _ _ _ _ us hl => match us, hl with | [_, _], _ => rfl) (md_crushed A) sc_crushed (by decide) c_crushed r_crushed
theorem md_evenly_borne (A : All K mg) : Md PG W0 K mg base ⟨C0, (fun n ds => ofO (SS n ds)), GG, none, 1000⟩ f_evenly_borne g_evenly_borne 6 where
  blt := A.blt
  fns := by
    intro f x n b h
    simp only [f_evenly_borne, List.mem_cons, List.not_mem_nil, or_false, Prod.mk.injEq] at h
    rcases h with ⟨rfl, rfl, rfl, rfl⟩ | ⟨rfl, rfl, rfl, rfl⟩
    · exact (d_by_length A).mono (by decide)
    · exact (d_loads_of A).mono (by decide)
  hws := by
    intro f x n h
    simp [f_evenly_borne] at h
  gls := fun n x h => by cases h
theorem d_evenly_borne (A : All K mg) : DefOk PG W0 K mg base 7 "evenly_borne" (spF 1 (fun ds => ofO (SS id_evenly_borne ds)) K) :=
  mk_pure (ps := ["wall"]) A.a_evenly_borne (fun _ _ _ _ _ _ us hl => match us, hl with | [_], _ => rfl) (md_evenly_borne A) sc_evenly_borne (by decide) c_evenly_borne r_evenly_borne
theorem md_highest_laid (A : All K mg) : Md PG W0 K mg base ⟨C0, (fun n ds => ofO (SS n ds)), GG, none, 1000⟩ f_highest_laid g_highest_laid 7 where
  blt := A.blt
  fns := by
    intro f x n b h
    simp only [f_highest_laid, List.mem_cons, List.not_mem_nil, or_false, Prod.mk.injEq] at h
    rcases h with ⟨rfl, rfl, rfl, rfl⟩
    · exact (d_crushed A).mono (by decide)
  hws := by
    intro f x n h
    simp [f_highest_laid] at h
  gls := fun n x h => by cases h
theorem d_highest_laid (A : All K mg) : DefOk PG W0 K mg base 8 "highest_laid" (spF 3 (fun ds => ofO (SS id_highest_laid ds)) K) :=
  mk_pure (ps := ["course", "upper", "strength"]) A.a_highest_laid (fun _ _ _ _ _ _ us hl => match us, hl with | [_, _, _], _ => rfl) (md_highest_laid A) sc_highest_laid (by decide) c_highest_laid r_highest_laid
theorem md_law (A : All K mg) (t : Addr × Addr × List Int) : Md PG W0 K mg base ⟨C0, (fun n ds => ofO (SS n ds)), GG, some t, 1⟩ f_law g_law 8 where
  blt := A.blt
  fns := by
    intro f x n b h
    simp only [f_law, List.mem_cons, List.not_mem_nil, or_false, Prod.mk.injEq] at h
    rcases h with ⟨rfl, rfl, rfl, rfl⟩ | ⟨rfl, rfl, rfl, rfl⟩ | ⟨rfl, rfl, rfl, rfl⟩ | ⟨rfl, rfl, rfl, rfl⟩ | ⟨rfl, rfl, rfl, rfl⟩ | ⟨rfl, rfl, rfl, rfl⟩ | ⟨rfl, rfl, rfl, rfl⟩ | ⟨rfl, rfl, rfl, rfl⟩ | ⟨rfl, rfl, rfl, rfl⟩ | ⟨rfl, rfl, rfl, rfl⟩ | ⟨rfl, rfl, rfl, rfl⟩ | ⟨rfl, rfl, rfl, rfl⟩ | ⟨rfl, rfl, rfl, rfl⟩ | ⟨rfl, rfl, rfl, rfl⟩ | ⟨rfl, rfl, rfl, rfl⟩ | ⟨rfl, rfl, rfl, rfl⟩ | ⟨rfl, rfl, rfl, rfl⟩ | ⟨rfl, rfl, rfl, rfl⟩ | ⟨rfl, rfl, rfl, rfl⟩
    · exact (d_law_next A).mono (by decide)
    · exact (d_law_same A).mono (by decide)
    · exact (d_law_fraction A).mono (by decide)
    · exact (d_law_less A).mono (by decide)
    · exact (d_law_ends A).mono (by decide)
    · exact (d_law_pick A).mono (by decide)
    · exact (d_law_plus A).mono (by decide)
    · exact (d_law_course A).mono (by decide)
    · exact (d_law_part A).mono (by decide)
    · exact (d_shared A).mono (by decide)
    · exact (d_law_loads A).mono (by decide)
    · exact (d_law_crushed A).mono (by decide)
    · exact (d_pressed A).mono (by decide)
    · exact (d_loads_of A).mono (by decide)
    · exact (d_heaviest_load A).mono (by decide)
    · exact (d_foot_loads A).mono (by decide)
    · exact (d_crushed A).mono (by decide)
    · exact (d_evenly_borne A).mono (by decide)
    · exact (d_highest_laid A).mono (by decide)
  hws := fun _ _ _ _ => rfl
  gls := fun n x h => by cases h
theorem k_law (A : All K mg) {f : Addr} {fd : FuncData} (F : Fun K "law" "law" s_law f fd) : FnOk PG W0 K mg base CX0 9 f fd ["script"] (spLaw K) := by
  obtain ⟨a, fad, h1, h2, Fd⟩ := A.a_law_draws
  have ok := ok_draws (PG := PG) (W0 := W0) (base := base) (k := 0) (m := "mixed") Fd sc_law_draws rfl (by decide +kernel) (by decide +kernel) (by decide +kernel) (by decide +kernel) A.blt
  exact ok_law (fun t => md_law A t) F sc_law rfl rfl ⟨by decide, by decide⟩ rfl (by decide +kernel) c_law h1 h2 (Fd.binds (fun _ _ _ _ _ _ us hl => match us, hl with | [_, _], _ => rfl)) (ok.mono (by decide)) hlaw
end
theorem all_mk {l : PySem.W.OpenLaw} {w : World} {K : PySem.W.Frag} {h : Heap} {mg : Str → Option Value} {fa : Addr} (X : K.In h) (G : h.Ns mainGlobals mg) (hfa : mg "law" = some (.ref fa))
    {f0 : Addr} {od0 an0 : Option Addr} {sl0 : Array (Option Value)} {oc0 kV0 dc0 pm0 cd0 ct0 : Value} (a0 : PySem.W.nsIn K mainGlobals "common" = some (some (.ref f0))) (l0 : K.lookup f0 = some ⟨oc0, od0, .func (PySem.W.fnOf "common" "common" (defArgs s_common) (defBody s_common) (defScope s_common) .none kV0 dc0 pm0 an0 cd0 ct0), sl0⟩) (c0 : PySem.W.codeIn K cd0 "common" = true) (k0 : PySem.W.keepIn K (.ref f0) = true)
    {f1 : Addr} {od1 an1 : Option Addr} {sl1 : Array (Option Value)} {oc1 kV1 dc1 pm1 cd1 ct1 : Value} (a1 : PySem.W.nsIn K mainGlobals "is_less" = some (some (.ref f1))) (l1 : K.lookup f1 = some ⟨oc1, od1, .func (PySem.W.fnOf "is_less" "is_less" (defArgs s_is_less) (defBody s_is_less) (defScope s_is_less) .none kV1 dc1 pm1 an1 cd1 ct1), sl1⟩) (c1 : PySem.W.codeIn K cd1 "is_less" = true) (k1 : PySem.W.keepIn K (.ref f1) = true)
    {f2 : Addr} {od2 an2 : Option Addr} {sl2 : Array (Option Value)} {oc2 kV2 dc2 pm2 cd2 ct2 : Value} (a2 : PySem.W.nsIn K mainGlobals "ends_of" = some (some (.ref f2))) (l2 : K.lookup f2 = some ⟨oc2, od2, .func (PySem.W.fnOf "ends_of" "ends_of" (defArgs s_ends_of) (defBody s_ends_of) (defScope s_ends_of) .none kV2 dc2 pm2 an2 cd2 ct2), sl2⟩) (c2 : PySem.W.codeIn K cd2 "ends_of" = true) (k2 : PySem.W.keepIn K (.ref f2) = true)
    {f3 : Addr} {od3 an3 : Option Addr} {sl3 : Array (Option Value)} {oc3 kV3 dc3 pm3 cd3 ct3 : Value} (a3 : PySem.W.nsIn K mainGlobals "_law_draws" = some (some (.ref f3))) (l3 : K.lookup f3 = some ⟨oc3, od3, .func (PySem.W.fnOf "_law_draws" "_law_draws" (defArgs s_law_draws) (defBody s_law_draws) (defScope s_law_draws) .none kV3 dc3 pm3 an3 cd3 ct3), sl3⟩) (c3 : PySem.W.codeIn K cd3 "_law_draws" = true) (k3 : PySem.W.keepIn K (.ref f3) = true)
    {f4 : Addr} {od4 an4 : Option Addr} {sl4 : Array (Option Value)} {oc4 kV4 dc4 pm4 cd4 ct4 : Value} (a4 : PySem.W.nsIn K mainGlobals "_law_next" = some (some (.ref f4))) (l4 : K.lookup f4 = some ⟨oc4, od4, .func (PySem.W.fnOf "_law_next" "_law_next" (defArgs s_law_next) (defBody s_law_next) (defScope s_law_next) .none kV4 dc4 pm4 an4 cd4 ct4), sl4⟩) (c4 : PySem.W.codeIn K cd4 "_law_next" = true) (k4 : PySem.W.keepIn K (.ref f4) = true)
    {f5 : Addr} {od5 an5 : Option Addr} {sl5 : Array (Option Value)} {oc5 kV5 dc5 pm5 cd5 ct5 : Value} (a5 : PySem.W.nsIn K mainGlobals "_law_same" = some (some (.ref f5))) (l5 : K.lookup f5 = some ⟨oc5, od5, .func (PySem.W.fnOf "_law_same" "_law_same" (defArgs s_law_same) (defBody s_law_same) (defScope s_law_same) .none kV5 dc5 pm5 an5 cd5 ct5), sl5⟩) (c5 : PySem.W.codeIn K cd5 "_law_same" = true) (k5 : PySem.W.keepIn K (.ref f5) = true)
    {f6 : Addr} {od6 an6 : Option Addr} {sl6 : Array (Option Value)} {oc6 kV6 dc6 pm6 cd6 ct6 : Value} (a6 : PySem.W.nsIn K mainGlobals "_law_fraction" = some (some (.ref f6))) (l6 : K.lookup f6 = some ⟨oc6, od6, .func (PySem.W.fnOf "_law_fraction" "_law_fraction" (defArgs s_law_fraction) (defBody s_law_fraction) (defScope s_law_fraction) .none kV6 dc6 pm6 an6 cd6 ct6), sl6⟩) (c6 : PySem.W.codeIn K cd6 "_law_fraction" = true) (k6 : PySem.W.keepIn K (.ref f6) = true)
    {f7 : Addr} {od7 an7 : Option Addr} {sl7 : Array (Option Value)} {oc7 kV7 dc7 pm7 cd7 ct7 : Value} (a7 : PySem.W.nsIn K mainGlobals "_law_less" = some (some (.ref f7))) (l7 : K.lookup f7 = some ⟨oc7, od7, .func (PySem.W.fnOf "_law_less" "_law_less" (defArgs s_law_less) (defBody s_law_less) (defScope s_law_less) .none kV7 dc7 pm7 an7 cd7 ct7), sl7⟩) (c7 : PySem.W.codeIn K cd7 "_law_less" = true) (k7 : PySem.W.keepIn K (.ref f7) = true)
    {f8 : Addr} {od8 an8 : Option Addr} {sl8 : Array (Option Value)} {oc8 kV8 dc8 pm8 cd8 ct8 : Value} (a8 : PySem.W.nsIn K mainGlobals "_law_ends" = some (some (.ref f8))) (l8 : K.lookup f8 = some ⟨oc8, od8, .func (PySem.W.fnOf "_law_ends" "_law_ends" (defArgs s_law_ends) (defBody s_law_ends) (defScope s_law_ends) .none kV8 dc8 pm8 an8 cd8 ct8), sl8⟩) (c8 : PySem.W.codeIn K cd8 "_law_ends" = true) (k8 : PySem.W.keepIn K (.ref f8) = true)
    {f9 : Addr} {od9 an9 : Option Addr} {sl9 : Array (Option Value)} {oc9 kV9 dc9 pm9 cd9 ct9 : Value} (a9 : PySem.W.nsIn K mainGlobals "fraction" = some (some (.ref f9))) (l9 : K.lookup f9 = some ⟨oc9, od9, .func (PySem.W.fnOf "fraction" "fraction" (defArgs s_fraction) (defBody s_fraction) (defScope s_fraction) .none kV9 dc9 pm9 an9 cd9 ct9), sl9⟩) (c9 : PySem.W.codeIn K cd9 "fraction" = true) (k9 : PySem.W.keepIn K (.ref f9) = true)
    {f10 : Addr} {od10 an10 : Option Addr} {sl10 : Array (Option Value)} {oc10 kV10 dc10 pm10 cd10 ct10 : Value} (a10 : PySem.W.nsIn K mainGlobals "_law_pick" = some (some (.ref f10))) (l10 : K.lookup f10 = some ⟨oc10, od10, .func (PySem.W.fnOf "_law_pick" "_law_pick" (defArgs s_law_pick) (defBody s_law_pick) (defScope s_law_pick) .none kV10 dc10 pm10 an10 cd10 ct10), sl10⟩) (c10 : PySem.W.codeIn K cd10 "_law_pick" = true) (k10 : PySem.W.keepIn K (.ref f10) = true)
    {f11 : Addr} {od11 an11 : Option Addr} {sl11 : Array (Option Value)} {oc11 kV11 dc11 pm11 cd11 ct11 : Value} (a11 : PySem.W.nsIn K mainGlobals "_law_plus" = some (some (.ref f11))) (l11 : K.lookup f11 = some ⟨oc11, od11, .func (PySem.W.fnOf "_law_plus" "_law_plus" (defArgs s_law_plus) (defBody s_law_plus) (defScope s_law_plus) .none kV11 dc11 pm11 an11 cd11 ct11), sl11⟩) (c11 : PySem.W.codeIn K cd11 "_law_plus" = true) (k11 : PySem.W.keepIn K (.ref f11) = true)
    {f12 : Addr} {od12 an12 : Option Addr} {sl12 : Array (Option Value)} {oc12 kV12 dc12 pm12 cd12 ct12 : Value} (a12 : PySem.W.nsIn K mainGlobals "_law_times" = some (some (.ref f12))) (l12 : K.lookup f12 = some ⟨oc12, od12, .func (PySem.W.fnOf "_law_times" "_law_times" (defArgs s_law_times) (defBody s_law_times) (defScope s_law_times) .none kV12 dc12 pm12 an12 cd12 ct12), sl12⟩) (c12 : PySem.W.codeIn K cd12 "_law_times" = true) (k12 : PySem.W.keepIn K (.ref f12) = true)
    {f13 : Addr} {od13 an13 : Option Addr} {sl13 : Array (Option Value)} {oc13 kV13 dc13 pm13 cd13 ct13 : Value} (a13 : PySem.W.nsIn K mainGlobals "_law_course" = some (some (.ref f13))) (l13 : K.lookup f13 = some ⟨oc13, od13, .func (PySem.W.fnOf "_law_course" "_law_course" (defArgs s_law_course) (defBody s_law_course) (defScope s_law_course) .none kV13 dc13 pm13 an13 cd13 ct13), sl13⟩) (c13 : PySem.W.codeIn K cd13 "_law_course" = true) (k13 : PySem.W.keepIn K (.ref f13) = true)
    {f14 : Addr} {od14 an14 : Option Addr} {sl14 : Array (Option Value)} {oc14 kV14 dc14 pm14 cd14 ct14 : Value} (a14 : PySem.W.nsIn K mainGlobals "_law_part" = some (some (.ref f14))) (l14 : K.lookup f14 = some ⟨oc14, od14, .func (PySem.W.fnOf "_law_part" "_law_part" (defArgs s_law_part) (defBody s_law_part) (defScope s_law_part) .none kV14 dc14 pm14 an14 cd14 ct14), sl14⟩) (c14 : PySem.W.codeIn K cd14 "_law_part" = true) (k14 : PySem.W.keepIn K (.ref f14) = true)
    {f15 : Addr} {od15 an15 : Option Addr} {sl15 : Array (Option Value)} {oc15 kV15 dc15 pm15 cd15 ct15 : Value} (a15 : PySem.W.nsIn K mainGlobals "plus" = some (some (.ref f15))) (l15 : K.lookup f15 = some ⟨oc15, od15, .func (PySem.W.fnOf "plus" "plus" (defArgs s_plus) (defBody s_plus) (defScope s_plus) .none kV15 dc15 pm15 an15 cd15 ct15), sl15⟩) (c15 : PySem.W.codeIn K cd15 "plus" = true) (k15 : PySem.W.keepIn K (.ref f15) = true)
    {f16 : Addr} {od16 an16 : Option Addr} {sl16 : Array (Option Value)} {oc16 kV16 dc16 pm16 cd16 ct16 : Value} (a16 : PySem.W.nsIn K mainGlobals "times" = some (some (.ref f16))) (l16 : K.lookup f16 = some ⟨oc16, od16, .func (PySem.W.fnOf "times" "times" (defArgs s_times) (defBody s_times) (defScope s_times) .none kV16 dc16 pm16 an16 cd16 ct16), sl16⟩) (c16 : PySem.W.codeIn K cd16 "times" = true) (k16 : PySem.W.keepIn K (.ref f16) = true)
    {f17 : Addr} {od17 an17 : Option Addr} {sl17 : Array (Option Value)} {oc17 kV17 dc17 pm17 cd17 ct17 : Value} (a17 : PySem.W.nsIn K mainGlobals "parted" = some (some (.ref f17))) (l17 : K.lookup f17 = some ⟨oc17, od17, .func (PySem.W.fnOf "parted" "parted" (defArgs s_parted) (defBody s_parted) (defScope s_parted) .none kV17 dc17 pm17 an17 cd17 ct17), sl17⟩) (c17 : PySem.W.codeIn K cd17 "parted" = true) (k17 : PySem.W.keepIn K (.ref f17) = true)
    {f18 : Addr} {od18 an18 : Option Addr} {sl18 : Array (Option Value)} {oc18 kV18 dc18 pm18 cd18 ct18 : Value} (a18 : PySem.W.nsIn K mainGlobals "shared" = some (some (.ref f18))) (l18 : K.lookup f18 = some ⟨oc18, od18, .func (PySem.W.fnOf "shared" "shared" (defArgs s_shared) (defBody s_shared) (defScope s_shared) .none kV18 dc18 pm18 an18 cd18 ct18), sl18⟩) (c18 : PySem.W.codeIn K cd18 "shared" = true) (k18 : PySem.W.keepIn K (.ref f18) = true)
    {f19 : Addr} {od19 an19 : Option Addr} {sl19 : Array (Option Value)} {oc19 kV19 dc19 pm19 cd19 ct19 : Value} (a19 : PySem.W.nsIn K mainGlobals "_law_loads" = some (some (.ref f19))) (l19 : K.lookup f19 = some ⟨oc19, od19, .func (PySem.W.fnOf "_law_loads" "_law_loads" (defArgs s_law_loads) (defBody s_law_loads) (defScope s_law_loads) .none kV19 dc19 pm19 an19 cd19 ct19), sl19⟩) (c19 : PySem.W.codeIn K cd19 "_law_loads" = true) (k19 : PySem.W.keepIn K (.ref f19) = true)
    {f20 : Addr} {od20 an20 : Option Addr} {sl20 : Array (Option Value)} {oc20 kV20 dc20 pm20 cd20 ct20 : Value} (a20 : PySem.W.nsIn K mainGlobals "total" = some (some (.ref f20))) (l20 : K.lookup f20 = some ⟨oc20, od20, .func (PySem.W.fnOf "total" "total" (defArgs s_total) (defBody s_total) (defScope s_total) .none kV20 dc20 pm20 an20 cd20 ct20), sl20⟩) (c20 : PySem.W.codeIn K cd20 "total" = true) (k20 : PySem.W.keepIn K (.ref f20) = true)
    {f21 : Addr} {od21 an21 : Option Addr} {sl21 : Array (Option Value)} {oc21 kV21 dc21 pm21 cd21 ct21 : Value} (a21 : PySem.W.nsIn K mainGlobals "by_length" = some (some (.ref f21))) (l21 : K.lookup f21 = some ⟨oc21, od21, .func (PySem.W.fnOf "by_length" "by_length" (defArgs s_by_length) (defBody s_by_length) (defScope s_by_length) .none kV21 dc21 pm21 an21 cd21 ct21), sl21⟩) (c21 : PySem.W.codeIn K cd21 "by_length" = true) (k21 : PySem.W.keepIn K (.ref f21) = true)
    {f22 : Addr} {od22 an22 : Option Addr} {sl22 : Array (Option Value)} {oc22 kV22 dc22 pm22 cd22 ct22 : Value} (a22 : PySem.W.nsIn K mainGlobals "_law_crushed" = some (some (.ref f22))) (l22 : K.lookup f22 = some ⟨oc22, od22, .func (PySem.W.fnOf "_law_crushed" "_law_crushed" (defArgs s_law_crushed) (defBody s_law_crushed) (defScope s_law_crushed) .none kV22 dc22 pm22 an22 cd22 ct22), sl22⟩) (c22 : PySem.W.codeIn K cd22 "_law_crushed" = true) (k22 : PySem.W.keepIn K (.ref f22) = true)
    {f23 : Addr} {od23 an23 : Option Addr} {sl23 : Array (Option Value)} {oc23 kV23 dc23 pm23 cd23 ct23 : Value} (a23 : PySem.W.nsIn K mainGlobals "pressed" = some (some (.ref f23))) (l23 : K.lookup f23 = some ⟨oc23, od23, .func (PySem.W.fnOf "pressed" "pressed" (defArgs s_pressed) (defBody s_pressed) (defScope s_pressed) .none kV23 dc23 pm23 an23 cd23 ct23), sl23⟩) (c23 : PySem.W.codeIn K cd23 "pressed" = true) (k23 : PySem.W.keepIn K (.ref f23) = true)
    {f24 : Addr} {od24 an24 : Option Addr} {sl24 : Array (Option Value)} {oc24 kV24 dc24 pm24 cd24 ct24 : Value} (a24 : PySem.W.nsIn K mainGlobals "loads_of" = some (some (.ref f24))) (l24 : K.lookup f24 = some ⟨oc24, od24, .func (PySem.W.fnOf "loads_of" "loads_of" (defArgs s_loads_of) (defBody s_loads_of) (defScope s_loads_of) .none kV24 dc24 pm24 an24 cd24 ct24), sl24⟩) (c24 : PySem.W.codeIn K cd24 "loads_of" = true) (k24 : PySem.W.keepIn K (.ref f24) = true)
    {f25 : Addr} {od25 an25 : Option Addr} {sl25 : Array (Option Value)} {oc25 kV25 dc25 pm25 cd25 ct25 : Value} (a25 : PySem.W.nsIn K mainGlobals "heaviest_load" = some (some (.ref f25))) (l25 : K.lookup f25 = some ⟨oc25, od25, .func (PySem.W.fnOf "heaviest_load" "heaviest_load" (defArgs s_heaviest_load) (defBody s_heaviest_load) (defScope s_heaviest_load) .none kV25 dc25 pm25 an25 cd25 ct25), sl25⟩) (c25 : PySem.W.codeIn K cd25 "heaviest_load" = true) (k25 : PySem.W.keepIn K (.ref f25) = true)
    {f26 : Addr} {od26 an26 : Option Addr} {sl26 : Array (Option Value)} {oc26 kV26 dc26 pm26 cd26 ct26 : Value} (a26 : PySem.W.nsIn K mainGlobals "foot_loads" = some (some (.ref f26))) (l26 : K.lookup f26 = some ⟨oc26, od26, .func (PySem.W.fnOf "foot_loads" "foot_loads" (defArgs s_foot_loads) (defBody s_foot_loads) (defScope s_foot_loads) .none kV26 dc26 pm26 an26 cd26 ct26), sl26⟩) (c26 : PySem.W.codeIn K cd26 "foot_loads" = true) (k26 : PySem.W.keepIn K (.ref f26) = true)
    {f27 : Addr} {od27 an27 : Option Addr} {sl27 : Array (Option Value)} {oc27 kV27 dc27 pm27 cd27 ct27 : Value} (a27 : PySem.W.nsIn K mainGlobals "crushed" = some (some (.ref f27))) (l27 : K.lookup f27 = some ⟨oc27, od27, .func (PySem.W.fnOf "crushed" "crushed" (defArgs s_crushed) (defBody s_crushed) (defScope s_crushed) .none kV27 dc27 pm27 an27 cd27 ct27), sl27⟩) (c27 : PySem.W.codeIn K cd27 "crushed" = true) (k27 : PySem.W.keepIn K (.ref f27) = true)
    {f28 : Addr} {od28 an28 : Option Addr} {sl28 : Array (Option Value)} {oc28 kV28 dc28 pm28 cd28 ct28 : Value} (a28 : PySem.W.nsIn K mainGlobals "evenly_borne" = some (some (.ref f28))) (l28 : K.lookup f28 = some ⟨oc28, od28, .func (PySem.W.fnOf "evenly_borne" "evenly_borne" (defArgs s_evenly_borne) (defBody s_evenly_borne) (defScope s_evenly_borne) .none kV28 dc28 pm28 an28 cd28 ct28), sl28⟩) (c28 : PySem.W.codeIn K cd28 "evenly_borne" = true) (k28 : PySem.W.keepIn K (.ref f28) = true)
    {f29 : Addr} {od29 an29 : Option Addr} {sl29 : Array (Option Value)} {oc29 kV29 dc29 pm29 cd29 ct29 : Value} (a29 : PySem.W.nsIn K mainGlobals "highest_laid" = some (some (.ref f29))) (l29 : K.lookup f29 = some ⟨oc29, od29, .func (PySem.W.fnOf "highest_laid" "highest_laid" (defArgs s_highest_laid) (defBody s_highest_laid) (defScope s_highest_laid) .none kV29 dc29 pm29 an29 cd29 ct29), sl29⟩) (c29 : PySem.W.codeIn K cd29 "highest_laid" = true) (k29 : PySem.W.keepIn K (.ref f29) = true)
    {f30 : Addr} {od30 an30 : Option Addr} {sl30 : Array (Option Value)} {oc30 kV30 dc30 pm30 cd30 ct30 : Value} (a30 : PySem.W.nsIn K mainGlobals "law" = some (some (.ref f30))) (l30 : K.lookup f30 = some ⟨oc30, od30, .func (PySem.W.fnOf "law" "law" (defArgs s_law) (defBody s_law) (defScope s_law) .none kV30 dc30 pm30 an30 cd30 ct30), sl30⟩) (c30 : PySem.W.codeIn K cd30 "law" = true) (k30 : PySem.W.keepIn K (.ref f30) = true)
    (z0 : PySem.W.nsIn K mainGlobals "len" = some none)
    (z1 : PySem.W.nsIn K mainGlobals "abs" = some none)
    (z2 : PySem.W.nsIn K mainGlobals "sum" = some none)
    (z3 : PySem.W.nsIn K mainGlobals "any" = some none)
    (z4 : PySem.W.nsIn K mainGlobals "all" = some none)
    (z5 : PySem.W.nsIn K mainGlobals "sorted" = some none)
    (z6 : PySem.W.nsIn K mainGlobals "min" = some none)
    (z7 : PySem.W.nsIn K mainGlobals "max" = some none)
    (z8 : PySem.W.nsIn K mainGlobals "tuple" = some none)
    (z9 : PySem.W.nsIn K mainGlobals "list" = some none)
    (z10 : PySem.W.nsIn K mainGlobals "int" = some none)
    (z11 : PySem.W.nsIn K mainGlobals "str" = some none)
    (z12 : PySem.W.nsIn K mainGlobals "dict" = some none)
    (z13 : PySem.W.nsIn K mainGlobals "set" = some none)
    (z14 : PySem.W.nsIn K mainGlobals "range" = some none)
    (z15 : PySem.W.nsIn K mainGlobals "zip" = some none)
    (z16 : PySem.W.nsIn K mainGlobals "isinstance" = some none)
    (z17 : PySem.W.nsIn K mainGlobals "bool" = some none) :
    ∃ fd : FuncData, (∀ (s : Shared) (v : Value), BindsTo s fd ⟨[v], []⟩ [("script", v)]) ∧ ∀ base : Heap, K.In base → base.Ns mainGlobals mg → FnOk l.prog w K mg base CX0 9 fa fd ["script"] (spLaw K) := by
  have e := hfa.symm.trans (PySem.W.mg_of X G a30)
  cases e
  have A : All K mg := ⟨by
    intro x hx
    simp only [bltN, List.mem_cons, List.not_mem_nil, or_false] at hx
    rcases hx with rfl | rfl | rfl | rfl | rfl | rfl | rfl | rfl | rfl | rfl | rfl | rfl | rfl | rfl | rfl | rfl | rfl | rfl
    · exact PySem.W.mg_none_of X G z0
    · exact PySem.W.mg_none_of X G z1
    · exact PySem.W.mg_none_of X G z2
    · exact PySem.W.mg_none_of X G z3
    · exact PySem.W.mg_none_of X G z4
    · exact PySem.W.mg_none_of X G z5
    · exact PySem.W.mg_none_of X G z6
    · exact PySem.W.mg_none_of X G z7
    · exact PySem.W.mg_none_of X G z8
    · exact PySem.W.mg_none_of X G z9
    · exact PySem.W.mg_none_of X G z10
    · exact PySem.W.mg_none_of X G z11
    · exact PySem.W.mg_none_of X G z12
    · exact PySem.W.mg_none_of X G z13
    · exact PySem.W.mg_none_of X G z14
    · exact PySem.W.mg_none_of X G z15
    · exact PySem.W.mg_none_of X G z16
    · exact PySem.W.mg_none_of X G z17, ⟨f0, _, PySem.W.mg_of X G a0, k0, fun_mk (st := s_common) l0 c0 k0⟩, ⟨f1, _, PySem.W.mg_of X G a1, k1, fun_mk (st := s_is_less) l1 c1 k1⟩, ⟨f2, _, PySem.W.mg_of X G a2, k2, fun_mk (st := s_ends_of) l2 c2 k2⟩, ⟨f3, _, PySem.W.mg_of X G a3, k3, fun_mk (st := s_law_draws) l3 c3 k3⟩, ⟨f4, _, PySem.W.mg_of X G a4, k4, fun_mk (st := s_law_next) l4 c4 k4⟩, ⟨f5, _, PySem.W.mg_of X G a5, k5, fun_mk (st := s_law_same) l5 c5 k5⟩, ⟨f6, _, PySem.W.mg_of X G a6, k6, fun_mk (st := s_law_fraction) l6 c6 k6⟩, ⟨f7, _, PySem.W.mg_of X G a7, k7, fun_mk (st := s_law_less) l7 c7 k7⟩, ⟨f8, _, PySem.W.mg_of X G a8, k8, fun_mk (st := s_law_ends) l8 c8 k8⟩, ⟨f9, _, PySem.W.mg_of X G a9, k9, fun_mk (st := s_fraction) l9 c9 k9⟩, ⟨f10, _, PySem.W.mg_of X G a10, k10, fun_mk (st := s_law_pick) l10 c10 k10⟩, ⟨f11, _, PySem.W.mg_of X G a11, k11, fun_mk (st := s_law_plus) l11 c11 k11⟩, ⟨f12, _, PySem.W.mg_of X G a12, k12, fun_mk (st := s_law_times) l12 c12 k12⟩, ⟨f13, _, PySem.W.mg_of X G a13, k13, fun_mk (st := s_law_course) l13 c13 k13⟩, ⟨f14, _, PySem.W.mg_of X G a14, k14, fun_mk (st := s_law_part) l14 c14 k14⟩, ⟨f15, _, PySem.W.mg_of X G a15, k15, fun_mk (st := s_plus) l15 c15 k15⟩, ⟨f16, _, PySem.W.mg_of X G a16, k16, fun_mk (st := s_times) l16 c16 k16⟩, ⟨f17, _, PySem.W.mg_of X G a17, k17, fun_mk (st := s_parted) l17 c17 k17⟩, ⟨f18, _, PySem.W.mg_of X G a18, k18, fun_mk (st := s_shared) l18 c18 k18⟩, ⟨f19, _, PySem.W.mg_of X G a19, k19, fun_mk (st := s_law_loads) l19 c19 k19⟩, ⟨f20, _, PySem.W.mg_of X G a20, k20, fun_mk (st := s_total) l20 c20 k20⟩, ⟨f21, _, PySem.W.mg_of X G a21, k21, fun_mk (st := s_by_length) l21 c21 k21⟩, ⟨f22, _, PySem.W.mg_of X G a22, k22, fun_mk (st := s_law_crushed) l22 c22 k22⟩, ⟨f23, _, PySem.W.mg_of X G a23, k23, fun_mk (st := s_pressed) l23 c23 k23⟩, ⟨f24, _, PySem.W.mg_of X G a24, k24, fun_mk (st := s_loads_of) l24 c24 k24⟩, ⟨f25, _, PySem.W.mg_of X G a25, k25, fun_mk (st := s_heaviest_load) l25 c25 k25⟩, ⟨f26, _, PySem.W.mg_of X G a26, k26, fun_mk (st := s_foot_loads) l26 c26 k26⟩, ⟨f27, _, PySem.W.mg_of X G a27, k27, fun_mk (st := s_crushed) l27 c27 k27⟩, ⟨f28, _, PySem.W.mg_of X G a28, k28, fun_mk (st := s_evenly_borne) l28 c28 k28⟩, ⟨f29, _, PySem.W.mg_of X G a29, k29, fun_mk (st := s_highest_laid) l29 c29 k29⟩, ⟨fa, _, PySem.W.mg_of X G a30, k30, fun_mk (st := s_law) l30 c30 k30⟩⟩
  exact ⟨PySem.W.fnOf "law" "law" (defArgs s_law) (defBody s_law) (defScope s_law) .none kV30 dc30 pm30 an30 cd30 ct30, fun s v => .of_eq rfl, fun base _ _ => k_law A (fun_mk (st := s_law) l30 c30 k30)⟩
end PW
open PySem PySem.W PyProof.Rows
set_option maxHeartbeats 0 in
theorem PySem.Challenge.cw_bondslaid_k04_whole_what_bears_what_holds : PySem.Challenge.rw_bondslaid_k04_whole_what_bears_what.Holds := by
  w_on; o_law; k_head; (case hw => w_witness2)
  k_fill
  refine L2.walk_of (l := PySem.Challenge.rw_bondslaid_k04_whole_what_bears_what) (n := 63) (k := 9) (x := "script") (CX := fun _ => L2.CX0) (sp := fun w => PV.spLaw _) rfl (by decide) rfl ⟨rfl, by decide, by decide⟩ (fun w h Y => PySem.W.kIn_of Y) ?F (fun _ _ a ns hl _ hS => ⟨a, ns, rfl, hS, hl, fun _ => rfl⟩) (fun _ _ _ _ _ h => h)
  case F =>
    intro w mg fa h KX G hmg
    refine' PW.all_mk KX G hmg ?a0 ?l0 ?c0 ?k0 ?a1 ?l1 ?c1 ?k1 ?a2 ?l2 ?c2 ?k2 ?a3 ?l3 ?c3 ?k3 ?a4 ?l4 ?c4 ?k4 ?a5 ?l5 ?c5 ?k5 ?a6 ?l6 ?c6 ?k6 ?a7 ?l7 ?c7 ?k7 ?a8 ?l8 ?c8 ?k8 ?a9 ?l9 ?c9 ?k9 ?a10 ?l10 ?c10 ?k10 ?a11 ?l11 ?c11 ?k11 ?a12 ?l12 ?c12 ?k12 ?a13 ?l13 ?c13 ?k13 ?a14 ?l14 ?c14 ?k14 ?a15 ?l15 ?c15 ?k15 ?a16 ?l16 ?c16 ?k16 ?a17 ?l17 ?c17 ?k17 ?a18 ?l18 ?c18 ?k18 ?a19 ?l19 ?c19 ?k19 ?a20 ?l20 ?c20 ?k20 ?a21 ?l21 ?c21 ?k21 ?a22 ?l22 ?c22 ?k22 ?a23 ?l23 ?c23 ?k23 ?a24 ?l24 ?c24 ?k24 ?a25 ?l25 ?c25 ?k25 ?a26 ?l26 ?c26 ?k26 ?a27 ?l27 ?c27 ?k27 ?a28 ?l28 ?c28 ?k28 ?a29 ?l29 ?c29 ?k29 ?a30 ?l30 ?c30 ?k30 ?z0 ?z1 ?z2 ?z3 ?z4 ?z5 ?z6 ?z7 ?z8 ?z9 ?z10 ?z11 ?z12 ?z13 ?z14 ?z15 ?z16 ?z17
    (case a0 => k_is); (case l0 => k_is); (case c0 => k_is); (case k0 => k_is); (case a1 => k_is); (case l1 => k_is); (case c1 => k_is); (case k1 => k_is); (case a2 => k_is); (case l2 => k_is); (case c2 => k_is); (case k2 => k_is); (case a3 => k_is); (case l3 => k_is); (case c3 => k_is); (case k3 => k_is); (case a4 => k_is); (case l4 => k_is); (case c4 => k_is); (case k4 => k_is); (case a5 => k_is); (case l5 => k_is); (case c5 => k_is); (case k5 => k_is); (case a6 => k_is); (case l6 => k_is); (case c6 => k_is); (case k6 => k_is); (case a7 => k_is); (case l7 => k_is); (case c7 => k_is); (case k7 => k_is); (case a8 => k_is); (case l8 => k_is); (case c8 => k_is); (case k8 => k_is); (case a9 => k_is); (case l9 => k_is); (case c9 => k_is); (case k9 => k_is); (case a10 => k_is); (case l10 => k_is); (case c10 => k_is); (case k10 => k_is); (case a11 => k_is); (case l11 => k_is); (case c11 => k_is); (case k11 => k_is); (case a12 => k_is); (case l12 => k_is); (case c12 => k_is); (case k12 => k_is); (case a13 => k_is); (case l13 => k_is); (case c13 => k_is); (case k13 => k_is); (case a14 => k_is); (case l14 => k_is); (case c14 => k_is); (case k14 => k_is); (case a15 => k_is); (case l15 => k_is); (case c15 => k_is); (case k15 => k_is); (case a16 => k_is); (case l16 => k_is); (case c16 => k_is); (case k16 => k_is); (case a17 => k_is); (case l17 => k_is); (case c17 => k_is); (case k17 => k_is); (case a18 => k_is); (case l18 => k_is); (case c18 => k_is); (case k18 => k_is); (case a19 => k_is); (case l19 => k_is); (case c19 => k_is); (case k19 => k_is); (case a20 => k_is); (case l20 => k_is); (case c20 => k_is); (case k20 => k_is); (case a21 => k_is); (case l21 => k_is); (case c21 => k_is); (case k21 => k_is); (case a22 => k_is); (case l22 => k_is); (case c22 => k_is); (case k22 => k_is); (case a23 => k_is); (case l23 => k_is); (case c23 => k_is); (case k23 => k_is); (case a24 => k_is); (case l24 => k_is); (case c24 => k_is); (case k24 => k_is); (case a25 => k_is); (case l25 => k_is); (case c25 => k_is); (case k25 => k_is); (case a26 => k_is); (case l26 => k_is); (case c26 => k_is); (case k26 => k_is); (case a27 => k_is); (case l27 => k_is); (case c27 => k_is); (case k27 => k_is); (case a28 => k_is); (case l28 => k_is); (case c28 => k_is); (case k28 => k_is); (case a29 => k_is); (case l29 => k_is); (case c29 => k_is); (case k29 => k_is); (case a30 => k_is); (case l30 => k_is); (case c30 => k_is); (case k30 => k_is); (case z0 => k_is); (case z1 => k_is); (case z2 => k_is); (case z3 => k_is); (case z4 => k_is); (case z5 => k_is); (case z6 => k_is); (case z7 => k_is); (case z8 => k_is); (case z9 => k_is); (case z10 => k_is); (case z11 => k_is); (case z12 => k_is); (case z13 => k_is); (case z14 => k_is); (case z15 => k_is); (case z16 => k_is); (case z17 => k_is)

