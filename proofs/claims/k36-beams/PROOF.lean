import PyProof.Rows.All
import Wide.All
import OpenK.AllK
import Wide.FinOn
import HandS.ForMost
import HandS.Conv
import HandS.TupAny
import HandS.TupMul
import HandS.Style
import HandS.Zip
import HandS.Wide
import HandS.IsInst
import KE.DataEq
import KE.DataCmp
import KE.DataMinMax
import KE.DataAny
import KE.DataFind
import KE.DataIsa
import KE.SortData
import KE.DatumOrd
import KE.KDictKeyed
import HandS.SetFor
import HandS.Evl
import KE.KTupSum
import PyProof.SeqIndex
import HandS.More
import KE.SortLaws
import PySem.Challenge.RW_bondslaid_k36_whole_beams_on_props
set_option Elab.async false
set_option linter.all false
set_option maxRecDepth 100000
/-! PV: a small language of data, its interpreter over a monad. -/
namespace PV
open PySem

abbrev D := PyData

/-- a slot of a def: not set, a value that others may hold, a list or dict that this def alone holds, a value that the core never reads -/
inductive Slot where
  | no
  | sh (d : D)
  | ow (d : D)
  | fx (v : L2.V)
abbrev Env := List Slot
def Slot.val : Slot → Option D
  | .no => none
  | .sh d => some d
  | .ow d => some d
  | .fx _ => none
def Slot.frz : Slot → Slot
  | .ow d => .sh d
  | x => x
def Slot.own? : Slot → Option D
  | .ow d => some d
  | _ => none
def getV (ρ : Env) (i : Nat) : Option D := (ρ[i]?).bind Slot.val
def getO (ρ : Env) (i : Nat) : Option D := (ρ[i]?).bind Slot.own?
/-- the names vs frozen -/
def frz (vs : List Nat) (ρ : Env) : Env := ρ.mapIdx fun i s => if vs.contains i then s.frz else s
/-- the names vs forgotten -/
def wip (vs : List Nat) (ρ : Env) : Env := ρ.mapIdx fun i s => if vs.contains i then .no else s
/-- what stood in ρ0 is kept -/
def msk (ρ0 ρ : Env) : Env := ρ.mapIdx fun i s => match ρ0[i]? with
  | some .no => .no
  | none => .no
  | _ => s

inductive Fl where
  | nx (ρ : Env)
  | rt (d : D)
  | bk (ρ : Env)

inductive Op2 where
  | add | sub | mul | fdiv | mod | pow
inductive Cm where
  | eq | ne | lt | le | gt | ge | is_ | isnot | in_ | notin
inductive Bi where
  | len | abs | sum | any | all | tuple | list | sorted | min | max | int | str | dict | sset | lset
inductive Ty where
  | int | bool | str | tuple | list | dict

mutual
inductive Pat where
  | nm (i : Nat)
  | tp (ps : Pats)
inductive Pats where
  | nil
  | cons (p : Pat) (ps : Pats)
end

mutual
inductive E where
  | none
  | bl (b : Bool)
  | int (i : Int)
  | str (s : Str)
  | var (i : Nat)
  | gl (n : Nat)
  | bin (o : Op2) (a b : E)
  | neg (a : E)
  | not (a : E)
  | and (a b : E)
  | or (a b : E)
  | cmp (c : Cm) (a b : E)
  | chain (c1 c2 : Cm) (a b c : E)
  | chain3 (c1 c2 c3 : Cm) (a b c d : E)
  | ife (t a b : E)
  | tup (es : Es)
  | lst (es : Es)
  | dct0
  | ix (a i : E)
  | sl (a lo hi : E)
  | rev (a : E)
  | yes
  | comp (own : List Nat) (p : Pat) (s : Src) (t elt : E)
  | comp2 (own own1 : List Nat) (p : Pat) (s : Src) (t : E) (p1 : Pat) (s1 : Src) (t1 elt : E)
  | call (f : Nat) (es : Es)
  | callw (f : Nat) (es : Es)
  | bi (b : Bi) (a : E)
  | bis (b : Bi) (s : Src)
  | mx (a b : E)
  | mn (a b : E)
  | isin (a : E) (t : Ty)
  | count (a x : E)
  | index (a x : E)
  | get1 (a k : E)
  | get2 (a k d : E)
  | bad
inductive Es where
  | nil
  | cons (e : E) (es : Es)
inductive Src where
  | val (e : E)
  | r1 (a : E)
  | r2 (a b : E)
  | r3 (a b c : E)
  | zip (a b : E)
end

mutual
inductive S where
  | pass
  | asg (i : Nat) (e : E)
  | asgp (is : List Nat) (es : Es)
  | asgt (p : Pat) (e : E)
  | aug (i : Nat) (o : Op2) (e : E)
  | app (i : Nat) (e : E)
  | ext (i : Nat) (e : E)
  | ins0 (i : Nat) (e : E)
  | seti (i : Nat) (k e : E)
  | augi (i : Nat) (k : E) (o : Op2) (e : E)
  | upd (i : Nat) (e : E)
  | popt (p : Pat) (i : Nat)
  | ite (t : E) (a b : Ss)
  | whl (t : E) (b : Ss)
  | for_ (p : Pat) (s : Src) (b : Ss)
  | ret (e : E)
  | brk
  | bad
inductive Ss where
  | nil
  | cons (s : S) (r : Ss)
end

def Es.len : Es → Nat
  | .nil => 0
  | .cons _ es => es.len + 1
mutual
def Pat.ns : Pat → List Nat
  | .nm i => [i]
  | .tp ps => ps.ns
def Pats.ns : Pats → List Nat
  | .nil => []
  | .cons p ps => p.ns ++ ps.ns
end

/-! ### what is read as a value of its own (frozen ahead) -/
mutual
/-- b: only looked at -/
def esc (b : Bool) : E → List Nat
  | .var i => if b then [] else [i]
  | .bin _ x y => esc true x ++ esc true y
  | .neg x => esc true x
  | .not x => esc true x
  | .and x y => esc false x ++ esc false y
  | .or x y => esc false x ++ esc false y
  | .cmp _ x y => esc true x ++ esc true y
  | .chain _ _ x y z => esc true x ++ (esc true y ++ esc true z)
  | .chain3 _ _ _ x y z w => esc true x ++ (esc true y ++ (esc true z ++ esc true w))
  | .ife t x y => esc true t ++ (esc false x ++ esc false y)
  | .tup es => escs es
  | .lst es => escs es
  | .ix x i => esc true x ++ esc true i
  | .sl x lo hi => esc true x ++ (esc true lo ++ esc true hi)
  | .rev x => esc true x
  | .comp _ _ s t elt => escS s ++ (esc true t ++ esc false elt)
  | .comp2 _ _ _ s t _ s1 t1 elt => escS s ++ (esc true t ++ (escS s1 ++ (esc true t1 ++ esc false elt)))
  | .call _ es => escs es
  | .callw _ es => escs es
  | .bi _ x => esc true x
  | .bis _ s => escS s
  | .mx x y => esc true x ++ esc true y
  | .mn x y => esc true x ++ esc true y
  | .isin x _ => esc true x
  | .count x y => esc true x ++ esc true y
  | .index x y => esc true x ++ esc true y
  | .get1 x k => esc true x ++ esc true k
  | .get2 x k d => esc true x ++ (esc true k ++ esc false d)
  | .none => []
  | .bl _ => []
  | .int _ => []
  | .str _ => []
  | .gl _ => []
  | .dct0 => []
  | .yes => []
  | .bad => []
def escs : Es → List Nat
  | .nil => []
  | .cons e es => esc false e ++ escs es
def escS : Src → List Nat
  | .val e => esc true e
  | .r1 x => esc true x
  | .r2 x y => esc true x ++ esc true y
  | .r3 x y z => esc true x ++ (esc true y ++ esc true z)
  | .zip x y => esc true x ++ esc true y
end
/-- the source of a loop: frozen while it runs -/
def escF : Src → List Nat
  | .val e => esc false e
  | .r1 x => esc true x
  | .r2 x y => esc true x ++ esc true y
  | .r3 x y z => esc true x ++ (esc true y ++ esc true z)
  | .zip x y => esc false x ++ esc false y
end PV

set_option maxHeartbeats 4000000
/-! PV: set(xs) of a list of ints, as HandS.SetFor has it of a tuple; numbers in order, no twins. -/
namespace PV
open PySem PySem.Spec PyProof.Rows L2 RZ
/-! ### numbers in order, no twins -/
def insU (x : Int) : List Int → List Int
  | [] => [x]
  | y :: l => if x < y then x :: y :: l else if x = y then y :: l else y :: insU x l
def uniqS (ns : List Int) : List Int := ns.foldr insU []
theorem mem_insU (x z : Int) : ∀ l : List Int, z ∈ insU x l ↔ z = x ∨ z ∈ l
  | [] => by simp [insU]
  | y :: l => by
    unfold insU
    split
    · simp
    · split
      · rename_i h; subst h; simp
      · rw [List.mem_cons, mem_insU x z l, List.mem_cons]
        constructor
        · rintro (h | h | h)
          · exact .inr (.inl h)
          · exact .inl h
          · exact .inr (.inr h)
        · rintro (h | h | h)
          · exact .inr (.inl h)
          · exact .inl h
          · exact .inr (.inr h)
theorem insU_asc (x : Int) : ∀ l : List Int, l.Pairwise (· < ·) → (insU x l).Pairwise (· < ·)
  | [], _ => by simp [insU]
  | y :: l, h => by
    obtain ⟨h1, h2⟩ := List.pairwise_cons.mp h
    unfold insU
    split
    · rename_i c
      refine List.pairwise_cons.mpr ⟨fun z hz => ?_, h⟩
      rcases List.mem_cons.mp hz with rfl | hz
      · exact c
      · have := h1 z hz; omega
    · split
      · exact h
      · refine List.pairwise_cons.mpr ⟨fun z hz => ?_, insU_asc x l h2⟩
        rcases (mem_insU x z l).mp hz with rfl | hz
        · omega
        · exact h1 z hz
theorem mem_uniq (z : Int) : ∀ ns : List Int, z ∈ uniqS ns ↔ z ∈ ns
  | [] => by simp [uniqS]
  | x :: ns => by
    show z ∈ insU x (uniqS ns) ↔ _
    rw [mem_insU, mem_uniq z ns, List.mem_cons]
theorem uniq_asc : ∀ ns : List Int, (uniqS ns).Pairwise (· < ·)
  | [] => List.Pairwise.nil
  | x :: ns => insU_asc x _ (uniq_asc ns)
/-- two rows in order with the same members are one -/
theorem asc_eq : ∀ l m : List Int, l.Pairwise (· < ·) → m.Pairwise (· < ·) → (∀ k, k ∈ l ↔ k ∈ m) → l = m
  | [], [], _, _, _ => rfl
  | [], y :: m, _, _, h => by have := (h y).mpr (by simp); cases this
  | x :: l, [], _, _, h => by have := (h x).mp (by simp); cases this
  | x :: l, y :: m, hl, hm, h => by
    obtain ⟨l1, l2⟩ := List.pairwise_cons.mp hl
    obtain ⟨m1, m2⟩ := List.pairwise_cons.mp hm
    have e : x = y := by
      have a := (h x).mp (by simp)
      have b := (h y).mpr (by simp)
      rcases List.mem_cons.mp a with q | q
      · exact q
      · rcases List.mem_cons.mp b with r | r
        · exact r.symm
        · have := m1 x q
          have := l1 y r
          omega
    subst e
    congr 1
    refine asc_eq l m l2 m2 fun k => ⟨fun hk => ?_, fun hk => ?_⟩
    · rcases List.mem_cons.mp ((h k).mp (by simp [hk])) with q | q
      · have := l1 k hk; omega
      · exact q
    · rcases List.mem_cons.mp ((h k).mpr (by simp [hk])) with q | q
      · have := m1 k hk; omega
      · exact q
theorem asc_nodup : ∀ l : List Int, l.Pairwise (· < ·) → l.Nodup := fun l h => h.imp fun q => by omega
/-! ### set(xs) of a list -/
abbrev em0 (w : World) : Obj := { cls := .type "set", dict := none, data := .set #[] 0 (.fresh 0 0 (!w.params.followText "set-order")) }
section
variable {P : Program} {w : World} {A : Around} {E : Value → Shared → Prop} {s : Shared}
theorem call_set_listR {l : Addr} {items : Array Value} (ns : List Int) {Q : Value → Shared → Prop} (nh : A.handled = none) (hl : s.heap.IsList l items) (hi : IntsAre items.toList ns) (hb : ns.length + 1 < scanBound)
    (k : ∀ (g : Heap) (tk c : Nat), SetR w g s.heap.objs.size (fun j => decide (j ∈ ns)) c → c ≤ ns.length → (∀ b o, s.heap.get? b = some o → g.get? b = some o) → Q (.ref s.heap.objs.size) { s with heap := g, toks := tk }) : wpAny (model P w) A (call (.type "set") [.ref l]) Q E s := by
  have hn : items.size = ns.length := by have q := IntsAre.length hi; rwa [Array.length_toList] at q
  obtain ⟨c, tl, hmro⟩ := F.called_set.mro
  have made := F.called_set.made; have sub := F.called_set.sub
  refine wpAny_call (codeAny_of_tree ?_); show wpAny _ _ (callAny (.type "set") _) _ _ _
  refine wpAny_pure ⟨Code.quiet_builtin _ (by decide +kernel), codeAny_builtin F.entry_type_call ?_⟩; rw [Around.under_plain (weight_type_call_type "set" [.ref l] []) rfl]
  have n1 := F.called_set.notType; have n2 := F.called_set.canCreate; have n3 := F.typeCall_set_1 (.ref l)
  repeat (any_goals (first | assumption | wp_step))
  refine codeAny_mono (code_set_led1 (.ref l) (E := E) (Q₁ := fun obj s1 => obj = .ref s.heap.objs.size ∧ s1 = { s with heap := s.heap.push (em0 w) }) ⟨rfl, rfl⟩) fun r s1 hr => ?_
  match r, hr with
  | .error e, hr => exact hr
  | .ok (.ret obj), hr =>
    obtain ⟨rfl, rfl⟩ := hr
    have hS : (s.heap.push (em0 w)).get? s.heap.objs.size = some (em0 w) := Heap.get?_push_size _ rfl
    have hT : Shared.TypeIs { s with heap := s.heap.push (em0 w) } (.ref s.heap.objs.size) "set" := ⟨_, hS, rfl⟩
    have i1 := F.called_set.init.lookup; have i2 := F.called_set.init.bind (.ref s.heap.objs.size)
    repeat (any_goals (first | assumption | wp_step))
    refine codeAny_mono (codeAny_call_builtin (R := wants (fun r t => r = .none ∧ ∃ g tk c, t = { s with heap := g, toks := tk } ∧ SetR w g s.heap.objs.size (fun j => decide (j ∈ ns)) c ∧ c ≤ ns.length ∧ (∀ b o, s.heap.get? b = some o → g.get? b = some o)) E) F.called_set.init.plain F.entry_set_init (check_set_init_1 hT ?_)) fun r2 s2 hr2 => ?_
    · obtain ⟨⟨oc, od, oa, os⟩, ol, e1, nl, e2⟩ := hl
      simp only at e1 e2; subst e1; subst e2
      have ol' : (s.heap.push (em0 w)).get? l = some { cls := .type "list", dict := od, data := .seq items nl, slots := os } := Heap.get?_push_of_some _ ol
      have s1 := F.sub_list_set; have s2 := F.sub_list_frozenset; have nd : (Value.type "list" == Value.type "dict") = false := by decide
      have hl1 : (s.heap.push (em0 w)).IsList l items := ⟨_, ol', rfl, nl, rfl⟩
      unfold Builtin.«set.__init__» noKeywords Builtin.Frozenset.updateFrom; generalize hPI : pyIter = PI; wp_walk; subst hPI
      refine wpAny_pyIter_list hl1 (wpAny_bind (wpAny_runValue ?_))
      have lS : l < s.heap.objs.size := Heap.lt_size ol
      have nh3 : A.in1.in1.in1.handled = none := by simp [nh]
      have ps : (s.heap.push (em0 w)).objs.size = s.heap.objs.size + 1 := Heap.size_push ..
      have neI : l ≠ (s.heap.push (em0 w)).objs.size := by rw [ps]; exact Nat.ne_of_lt (Nat.lt_succ_of_lt lS)
      have sf : s.heap.objs.size ∉ [(s.heap.push (em0 w)).objs.size, l] := by rw [ps]; simp only [List.mem_cons, List.not_mem_nil, or_false, not_or]; exact ⟨Nat.ne_of_lt (Nat.lt_succ_self _), Nat.ne_of_gt lS⟩
      have val : ∀ (i : Nat) (v : Value), items[i]? = some v → ∃ z t, ns[i]? = some z ∧ v = .int z t := fun i v hv => by
        have il : i < ns.length := by rw [← hn]; exact (Array.getElem?_eq_some_iff.mp hv).1
        obtain ⟨t, e⟩ := IntsAre.int_at hi i v (by rw [Array.getElem?_toList]; exact hv)
        exact ⟨ns[i], t, List.getElem?_eq_getElem il, by rw [e, List.getD_eq_getElem?_getD, List.getElem?_eq_getElem il] <;> rfl⟩
      refine set_update_ints ((Walks.list nh3 _ l neI items).toS) s.heap.objs.size sf ns hn hb val (items.size - 0) 0 _ (by omega) (Nat.zero_le _) ⟨⟨_, Heap.get?_push_size _ rfl, rfl, rfl⟩, (hl1.push _)⟩ ⟨0, Nat.le_refl 0, setR_new_at (Heap.get?_push_of_some _ hS)⟩ ?_
      intro t c' hm hc' hS'
      obtain ⟨g, a1, a2, tk, a3⟩ := t
      have b1 : a1 = s.gens := hm.gens; have b2 : a2 = s.drawn := hm.drawn; have b3 : a3 = s.os := hm.os
      subst b1; subst b2; subst b3
      show wpAny _ _ _ _ _ _; refine wpAny_pure ?_; show wpAny _ _ (ret Value.none) _ _ _
      rw [hn] at hc'
      refine wpAny_pure ⟨rfl, g, tk, c', rfl, hS', hc', fun b o e => ?_⟩
      have q0 : b < s.heap.objs.size := Heap.lt_size e
      have q1 : b ≠ s.heap.objs.size := Nat.ne_of_lt q0
      have q2 : b ≠ (s.heap.push (em0 w)).objs.size := by rw [ps]; exact Nat.ne_of_lt (Nat.lt_succ_of_lt q0)
      exact hm.heap b o (by simp only [List.mem_cons, List.not_mem_nil, or_false, not_or]; exact ⟨q1, q2⟩) (Heap.get?_push_of_some _ (Heap.get?_push_of_some _ e))
    · match r2, hr2 with
      | .error e, hr2 => exact hr2
      | .ok (.ret r), hr2 =>
        obtain ⟨rfl, g, tk, c', rfl, hS', hc', hk'⟩ := hr2
        repeat (any_goals (first | assumption | wp_step))
        exact k _ _ _ hS' hc' hk'
end
end PV

/-! PV: operations on data, the interpreter. -/
namespace PV
open PySem

def LINE : Nat := 16777216
def cut {α : Type} (xs : List α) (lo hi : Option Int) : List α :=
  (xs.drop (HT.sIx xs.length 0 lo)).take (HT.sIx xs.length xs.length hi - HT.sIx xs.length 0 lo)
def small64 (i : Int) : Bool := decide (i.natAbs < 18446744073709551616)

def dBin : Op2 → D → D → Option D
  | .add, .int a, .int b => some (.int (a + b))
  | .add, .tuple a, .tuple b => if a.length + b.length ≤ LINE then some (.tuple (a ++ b)) else none
  | .add, .list a, .list b => if a.length + b.length ≤ LINE then some (.list (a ++ b)) else none
  | .add, .str a, .str b => if a.length + b.length ≤ LINE then some (.str (a ++ b)) else none
  | .sub, .int a, .int b => some (.int (a - b))
  | .mul, .int a, .int b => if small64 a || small64 b then some (.int (a * b)) else none
  | .mul, .tuple a, .int n => if n = 1 then some (.tuple a) else if a ≠ [] ∧ 2 ≤ n ∧ n ≤ 1000 ∧ a.length ≤ 1000 then some (.tuple (List.replicate n.toNat a).flatten) else none
  | .mul, .list a, .int n => if a.length * n.toNat ≤ LINE ∧ n.natAbs < 4611686018427387904 then some (.list (List.replicate n.toNat a).flatten) else none
  | .fdiv, .int a, .int b => if b ≠ 0 ∧ b.natAbs < 1606938044258990275541962092341162602522202993782792835301376 then some (.int (a.fdiv b)) else none
  | .mod, .int a, .int b => if b ≠ 0 then some (.int (a.fmod b)) else none
  | .pow, .int a, .int b => if 0 ≤ b ∧ b ≤ 1000000 ∧ a.natAbs < 18446744073709551616 then some (.int (a ^ b.toNat)) else none
  | _, _, _ => none

/-- data without dicts, at most n deep -/
def shal : Nat → D → Bool
  | _, .none => true
  | _, .bool _ => true
  | _, .int _ => true
  | _, .str _ => true
  | n + 1, .list xs => xs.all (shal n)
  | n + 1, .tuple xs => xs.all (shal n)
  | _, _ => false
def sh (d : D) : Bool := shal 20 d
def shs (xs : List D) : Bool := xs.all (shal 20)
def isN : D → Bool
  | .none => true
  | _ => false
def isB (b : Bool) : D → Bool
  | .bool c => c == b
  | _ => false
def cmpOk (a b : D) : Bool := sh a && (W.alike a b && !isN a)
def dlt (a b : D) : Option Bool := if cmpOk a b then some (W.dataLt a b) else none
/-- the place of a key -/
def keyAt (k : D) : List (D × D) → Option D
  | [] => none
  | (a, v) :: r => if PyData.eqv a k then some v else keyAt k r
def keyPut (k v : D) : List (D × D) → List (D × D)
  | [] => [(k, v)]
  | (a, u) :: r => if PyData.eqv a k then (a, v) :: r else (a, u) :: keyPut k v r
/-- a key: a whole number, a text, or a tuple of keys -/
def scalK : D → Bool
  | .int _ => true
  | .str _ => true
  | _ => false
mutual
def tupK : D → Bool
  | .int _ => true
  | .str _ => true
  | .bool _ => true
  | .none => true
  | .tuple xs => tupKs xs
  | _ => false
def tupKs : List D → Bool
  | [] => true
  | x :: xs => tupK x && tupKs xs
end
def isTup : D → Bool
  | .tuple _ => true
  | _ => false

def dIn (x : D) : D → Option Bool
  | .list xs => if sh x && shs xs then some (xs.any fun y => PyData.eqv y x) else none
  | .tuple xs => if sh x && shs xs then some (xs.any fun y => PyData.eqv y x) else none
  | .dict kvs => some (keyAt x kvs).isSome
  | _ => none
def dCmp : Cm → D → D → Option Bool
  | .eq, a, b => if sh a && sh b then some (PyData.eqv a b) else none
  | .ne, a, b => if sh a && sh b then some (!PyData.eqv a b) else none
  | .lt, a, b => dlt a b
  | .gt, a, b => (if cmpOk a b then some (W.dataLt b a) else none)
  | .le, a, b => (if cmpOk a b then some (!W.dataLt b a) else none)
  | .ge, a, b => (if cmpOk a b then some (!W.dataLt a b) else none)
  | .is_, a, .none => some (isN a)
  | .is_, a, .bool b => some (isB b a)
  | .isnot, a, .none => some (!isN a)
  | .isnot, a, .bool b => some (!isB b a)
  | .in_, a, b => dIn a b
  | .notin, a, b => (dIn a b).map (!·)
  | _, _, _ => none

def ints? : List D → Option (List Int)
  | [] => some []
  | .int i :: r => (ints? r).map (i :: ·)
  | _ :: _ => none
def bools? : List D → Option (List Bool)
  | [] => some []
  | .bool i :: r => (bools? r).map (i :: ·)
  | _ :: _ => none
def items : D → Option (List D)
  | .list xs => some xs
  | .tuple xs => some xs
  | _ => none
def allAlike (xs : List D) : Bool := xs.all fun a => xs.all fun b => W.alike a b
def tupNE : D → Bool
  | .tuple (_ :: _) => true
  | _ => false
def sortable (xs : List D) : Bool := xs.all tupNE || xs.all fun d => !isN d && !isTup d
def dSort (xs : List D) : Option (List D) :=
  if xs.length ≤ 1 && (shs xs && xs.all fun d => !isN d) then some xs else if shs xs && (allAlike xs && sortable xs) then some (xs.mergeSort (W.dataLe false id)) else none
/-- each once, the first of equal ones -/
def dedup (xs : List D) : List D := xs.foldl (fun acc x => if acc.any (fun y => PyData.eqv y x) then acc else acc ++ [x]) []
def dMin : List D → Option D
  | [] => none
  | x :: xs => if shs (x :: xs) && (allAlike (x :: xs) && (x :: xs).all (fun d => !isN d)) then some (W.minD x xs) else none
def dMax : List D → Option D
  | [] => none
  | x :: xs => if shs (x :: xs) && (allAlike (x :: xs) && (x :: xs).all (fun d => !isN d)) then some (W.maxD x xs) else none
def signs (s : Str) : List D := s.cps.toList.map fun c => .str ⟨#[c]⟩

/-- dict(pairs), onto what stands -/
def dPairs : List D → List (D × D) → Option (List (D × D))
  | [], acc => some acc
  | .tuple [k, v] :: r, acc => if tupK k then dPairs r (keyPut k v acc) else none
  | _ :: _, _ => none
def dBi : Bi → D → Option D
  | .len, .list xs => some (.int xs.length)
  | .len, .tuple xs => some (.int xs.length)
  | .len, .str s => if s.length ≤ LINE then some (.int s.length) else none
  | .len, .dict kvs => some (.int kvs.length)
  | .abs, .int i => some (.int (if i < 0 then -i else i))
  | .sum, d => (items d).bind fun xs => (ints? xs).map fun ns => .int ns.sum
  | .any, .list xs => (bools? xs).map fun bs => .bool (bs.any id)
  | .all, .list xs => (bools? xs).map fun bs => .bool (bs.all id)
  | .tuple, d => (items d).map .tuple
  | .list, .dict kvs => some (.list (kvs.map (·.1)))
  | .list, d => (items d).map .list
  | .sorted, .list xs => (dSort xs).map .list
  | .sorted, .tuple xs => (dSort xs).map .list
  | .min, d => (items d).bind dMin
  | .max, d => (items d).bind dMax
  | .int, .int i => some (.int i)
  | .int, .bool b => some (.int (if b then 1 else 0))
  | .str, .int i => if i.natAbs.log2 < 1920 then some (.str (toString i)) else none
  | .sset, d => (items d).bind fun xs => (ints? xs).bind fun ns => if ns.length ≤ 1000 ∧ (uniqS ns).length < 64 then some (.list ((uniqS ns).map .int)) else none
  | .lset, d => (items d).bind fun xs => (ints? xs).bind fun ns => if ns.length ≤ 1000 then some (.int (uniqS ns).length) else none
  | .dict, .dict kvs => some (.dict kvs)
  | .dict, .list ps => (dPairs ps []).map .dict
  | _, _ => none

def dIx : D → D → Option D
  | .list xs, .int i => L2.atI xs i
  | .tuple xs, .int i => L2.atI xs i
  | .str s, .int i => if s.length ≤ LINE then (L2.atI s.cps.toList i).map fun c => .str ⟨#[c]⟩ else none
  | .dict kvs, k => keyAt k kvs
  | _, _ => none
def bound? : E → D → Option (Option Int)
  | .none, _ => some none
  | _, .int i => some (some i)
  | _, _ => none
def dSl : D → Option Int → Option Int → Option D
  | .list xs, lo, hi => some (.list (cut xs lo hi))
  | .tuple xs, lo, hi => some (.tuple (cut xs lo hi))
  | _, _, _ => none
def dRev : D → Option D
  | .list xs => some (.list xs.reverse)
  | .tuple xs => some (.tuple xs.reverse)
  | _ => none
def dMx : D → D → Option D
  | .int i, .int j => some (.int (if j > i then j else i))
  | _, _ => none
def dMn : D → D → Option D
  | .int i, .int j => some (.int (if j < i then j else i))
  | _, _ => none
def dIs : D → Ty → Bool
  | .int _, .int => true
  | .bool _, .int => true
  | .bool _, .bool => true
  | .str _, .str => true
  | .tuple _, .tuple => true
  | .list _, .list => true
  | .dict _, .dict => true
  | _, _ => false
def dCount (x : D) (d : D) : Option D := (items d).bind fun xs => if sh x && shs xs then some (.int (xs.countP fun y => PyData.eqv y x)) else none
def dIndex (x : D) (d : D) : Option D := (items d).bind fun xs => if sh x && shs xs then (xs.findIdx? fun y => PyData.eqv y x).map fun n => .int n else none
def dGet (k x : D) : D → Option D
  | .dict kvs => some ((keyAt k kvs).getD x)
  | _ => none
def rng (a b : Int) : List D := (List.range (b - a).toNat).map fun (i : Nat) => .int (a + i)
def okR (a b : Int) : Bool := decide (a.natAbs < 4611686018427387904 ∧ b.natAbs < 4611686018427387904 ∧ (b - a).toNat ≤ LINE)
/-- range(a, b, c), c below nought: -1 alone -/
def rngD (a b : Int) : List D := (List.range (a - b).toNat).map fun (i : Nat) => .int (a - i)
def isMut : D → Bool
  | .list _ => true
  | .dict _ => true
  | _ => false

def E.fresh : E → Bool
  | .lst _ => true
  | .dct0 => true
  | .comp .. => true
  | .comp2 .. => true
  | .bi .list _ => true
  | .bi .sorted _ => true
  | .bi .dict _ => true
  | .bi .sset _ => true
  | .bis .list _ => true
  | .bin .. => true
  | .sl .. => true
  | .rev .. => true
  | _ => false
def slotOf (e : E) (d : D) : Slot := if e.fresh && isMut d then .ow d else .sh d

mutual
def bindP : Pat → D → Env → Option Env
  | .nm i, d, ρ => some (ρ.set i (.sh d))
  | .tp ps, .tuple ds, ρ => bindPs ps ds ρ
  | .tp _, _, _ => none
def bindPs : Pats → List D → Env → Option Env
  | .nil, [], ρ => some ρ
  | .cons p ps, d :: ds, ρ => (bindP p d ρ).bind fun ρ => bindPs ps ds ρ
  | _, _, _ => none
end

/-! ### the interpreter over a monad -/
structure Mo (m : Type → Type) where
  pure : {α : Type} → α → m α
  bind : {α β : Type} → m α → (α → m β) → m β
  fail : {α : Type} → m α
  whl : (Env → m (Env ⊕ Fl)) → Env → m Fl

section
variable {m : Type → Type} (M : Mo m)
def Mo.lift {α : Type} : Option α → m α
  | some a => M.pure a
  | none => M.fail
def bool? : D → Option Bool
  | .bool b => some b
  | _ => none
def int? : D → Option Int
  | .int i => some i
  | _ => none
def compL (g : D → m (Option D)) : List D → m (List D)
  | [] => M.pure []
  | x :: xs => M.bind (g x) fun o => M.bind (compL g xs) fun ys => M.pure (match o with
    | some y => y :: ys
    | none => ys)
def compLL (src : D → m (Option (Env × List D))) (g : Env → D → m (Option D)) : List D → List D → m (List D)
  | acc, [] => M.pure acc
  | acc, x :: xs => M.bind (src x) fun
    | none => compLL src g acc xs
    | some (ρ, zs) => if acc.length + zs.length ≤ LINE then M.bind (compL M (g ρ) zs) fun ys => compLL src g (acc ++ ys) xs else M.fail
def forL (g : D → Env → m Fl) (ρ0 : Env) : List D → Env → m Fl
  | [], ρ => M.pure (.nx ρ)
  | x :: xs, ρ => M.bind (g x ρ) fun
    | .nx ρ' => forL g ρ0 xs (msk ρ0 ρ')
    | .rt d => M.pure (.rt d)
    | .bk ρ' => M.pure (.nx (msk ρ0 ρ'))
def whlStep (vs : List Nat) (c : Env → m Bool) (b : Env → m Fl) (ρ0 ρ : Env) : m (Env ⊕ Fl) :=
  M.bind (c ρ) fun t => if t = true then M.bind (b ρ) fun
    | .nx ρ' => M.pure (.inl (frz vs (msk ρ0 ρ')))
    | .rt d => M.pure (.inr (.rt d))
    | .bk ρ' => M.pure (.inr (.nx (msk ρ0 ρ')))
  else M.pure (.inr (.nx ρ))
def iter? : D → Option (List D)
  | .list xs => some xs
  | .tuple xs => some xs
  | .dict kvs => some (kvs.map (·.1))
  | .str s => some (signs s)
  | _ => none
def zip2 (xs ys : List D) : List D := (xs.zip ys).map fun p => .tuple [p.1, p.2]

def zipD : D → D → Option (List D)
  | .list xs, .list ys => some (zip2 xs ys)
  | .tuple xs, .tuple ys => some (zip2 xs ys)
  | .list xs, .tuple ys => some (zip2 xs ys)
  | _, _ => none
variable (C : Nat → Option D) (F G : Nat → List D → m D)
mutual
def ev : E → Env → m D
  | .none, _ => M.pure .none
  | .bl b, _ => M.pure (.bool b)
  | .int i, _ => M.pure (.int i)
  | .str s, _ => M.pure (.str s)
  | .var i, ρ => M.lift (getV ρ i)
  | .gl n, _ => M.lift (C n)
  | .bin o a b, ρ => M.bind (ev a ρ) fun x => M.bind (ev b ρ) fun y => M.lift (dBin o x y)
  | .neg a, ρ => M.bind (ev a ρ) fun x => M.lift ((int? x).map fun i => .int (-i))
  | .not a, ρ => M.bind (ev a ρ) fun x => M.lift ((bool? x).map fun b => .bool (!b))
  | .and a b, ρ => M.bind (ev a ρ) fun x => M.bind (M.lift (bool? x)) fun t => if t = true then ev b ρ else M.pure (.bool false)
  | .or a b, ρ => M.bind (ev a ρ) fun x => M.bind (M.lift (bool? x)) fun t => if t = true then M.pure (.bool true) else ev b ρ
  | .cmp c a b, ρ => M.bind (ev a ρ) fun x => M.bind (ev b ρ) fun y => M.lift ((dCmp c x y).map .bool)
  | .chain c c' a b d, ρ => M.bind (ev a ρ) fun x => M.bind (ev b ρ) fun y => M.bind (M.lift (dCmp c x y)) fun t =>
      if t = true then M.bind (ev d ρ) fun z => M.lift ((dCmp c' y z).map .bool) else M.pure (.bool false)
  | .chain3 c c' c2 a b d g, ρ => M.bind (ev a ρ) fun x => M.bind (ev b ρ) fun y => M.bind (M.lift (dCmp c x y)) fun t =>
      if t = true then M.bind (ev d ρ) fun z => M.bind (M.lift (dCmp c' y z)) fun t => if t = true then M.bind (ev g ρ) fun u => M.lift ((dCmp c2 z u).map .bool) else M.pure (.bool false) else M.pure (.bool false)
  | .ife t a b, ρ => M.bind (ev t ρ) fun x => M.bind (M.lift (bool? x)) fun t => if t = true then ev a ρ else ev b ρ
  | .tup es, ρ => M.bind (evs es ρ) fun ds => M.pure (.tuple ds)
  | .lst es, ρ => M.bind (evs es ρ) fun ds => M.pure (.list ds)
  | .dct0, _ => M.pure (.dict [])
  | .ix a i, ρ => M.bind (ev a ρ) fun x => M.bind (ev i ρ) fun y => M.lift (dIx x y)
  | .sl a lo hi, ρ => M.bind (ev a ρ) fun x => M.bind (ev lo ρ) fun y => M.bind (M.lift (bound? lo y)) fun l => M.bind (ev hi ρ) fun z => M.bind (M.lift (bound? hi z)) fun h => M.lift (dSl x l h)
  | .rev a, ρ => M.bind (ev a ρ) fun x => M.lift (dRev x)
  | .yes, _ => M.pure (.bool true)
  | .comp own p s t elt, ρ => M.bind (evS s ρ) fun xs => M.bind (compL M (fun d => M.bind (M.lift (bindP p d (wip own ρ))) fun ρ1 =>
      M.bind (ev t ρ1) fun x => M.bind (M.lift (bool? x)) fun b => if b = true then M.bind (ev elt ρ1) fun y => M.pure (some y) else M.pure none) xs) fun ys => M.pure (.list ys)
  | .comp2 own own1 p s t p1 s1 t1 elt, ρ => M.bind (evS s ρ) fun xs => M.bind (compLL M (fun d => M.bind (M.lift (bindP p d (wip own ρ))) fun ρ1 =>
      M.bind (ev t ρ1) fun x => M.bind (M.lift (bool? x)) fun b => if b = true then M.bind (evS s1 ρ1) fun zs => M.pure (some (wip own1 ρ1, zs)) else M.pure none)
      (fun ρ1 d => M.bind (M.lift (bindP p1 d ρ1)) fun ρ2 => M.bind (ev t1 ρ2) fun x => M.bind (M.lift (bool? x)) fun b => if b = true then M.bind (ev elt ρ2) fun y => M.pure (some y) else M.pure none) [] xs) fun ys => M.pure (.list ys)
  | .call f es, ρ => M.bind (evs es ρ) fun ds => F f ds
  | .callw f es, ρ => M.bind (evs es ρ) fun ds => G f ds
  | .bi b a, ρ => M.bind (ev a ρ) fun x => M.lift (dBi b x)
  | .bis b s, ρ => M.bind (evS s ρ) fun xs => M.lift (match b with
      | .tuple => some (.tuple xs)
      | .list => some (.list xs)
      | _ => none)
  | .mx a b, ρ => M.bind (ev a ρ) fun x => M.bind (ev b ρ) fun y => M.lift (dMx x y)
  | .mn a b, ρ => M.bind (ev a ρ) fun x => M.bind (ev b ρ) fun y => M.lift (dMn x y)
  | .isin a t, ρ => M.bind (ev a ρ) fun x => M.pure (.bool (dIs x t))
  | .count a x, ρ => M.bind (ev a ρ) fun d => M.bind (ev x ρ) fun y => M.lift (dCount y d)
  | .index a x, ρ => M.bind (ev a ρ) fun d => M.bind (ev x ρ) fun y => M.lift (dIndex y d)
  | .get1 a k, ρ => M.bind (ev a ρ) fun d => M.bind (ev k ρ) fun y => M.lift (dGet y .none d)
  | .get2 a k x, ρ => M.bind (ev a ρ) fun d => M.bind (ev k ρ) fun y => M.bind (ev x ρ) fun z => M.lift (dGet y z d)
  | .bad, _ => M.fail
def evs : Es → Env → m (List D)
  | .nil, _ => M.pure []
  | .cons e es, ρ => M.bind (ev e ρ) fun d => M.bind (evs es ρ) fun ds => M.pure (d :: ds)
def evS : Src → Env → m (List D)
  | .val e, ρ => M.bind (ev e ρ) fun d => M.lift (items d)
  | .r1 a, ρ => M.bind (ev a ρ) fun x => M.bind (M.lift (int? x)) fun i => if okR 0 i then M.pure (rng 0 i) else M.fail
  | .r2 a b, ρ => M.bind (ev a ρ) fun x => M.bind (M.lift (int? x)) fun i => M.bind (ev b ρ) fun y => M.bind (M.lift (int? y)) fun j => if okR i j then M.pure (rng i j) else M.fail
  | .r3 a b c, ρ => M.bind (ev a ρ) fun x => M.bind (M.lift (int? x)) fun i => M.bind (ev b ρ) fun y => M.bind (M.lift (int? y)) fun j => M.bind (ev c ρ) fun z => M.bind (M.lift (int? z)) fun k =>
      if okR j i && k == -1 then M.pure (rngD i j) else M.fail
  | .zip a b, ρ => M.bind (ev a ρ) fun x => M.bind (ev b ρ) fun y => M.lift (zipD x y)
end

/-- slots set from the left -/
def setAll : List Nat → Es → List D → Env → Option Env
  | [], .nil, [], ρ => some ρ
  | i :: is, .cons e es, d :: ds, ρ => setAll is es ds (ρ.set i (slotOf e d))
  | _, _, _, _ => none
def dApp (d : D) : D → Option D
  | .list xs => if xs.length < LINE then some (.list (xs ++ [d])) else none
  | _ => none
def dExt (d : D) : D → Option D
  | .list xs => match d with
    | .list ys => if xs.length + ys.length ≤ LINE then some (.list (xs ++ ys)) else none
    | _ => none
  | _ => none
def dIns0 (d : D) : D → Option D
  | .list xs => if xs.length < LINE then some (.list (d :: xs)) else none
  | _ => none
def dSet (k d : D) : D → Option D
  | .list xs => match k with
    | .int i => (L2.ixN xs.length i).map fun j => .list (xs.set j d)
    | _ => none
  | .dict kvs => if tupK k && decide (kvs.length < LINE) then some (.dict (keyPut k d kvs)) else none
  | _ => none
def dUpd (d : D) : D → Option D
  | .dict kvs => match d with
    | .dict more => if kvs.length + more.length ≤ LINE then some (.dict (more.foldl (fun acc p => keyPut p.1 p.2 acc) kvs)) else none
    | _ => none
  | _ => none
def dPop : D → Option (D × D)
  | .list xs => match xs[xs.length - 1]? with
    | some y => some (y, .list xs.dropLast)
    | none => none
  | _ => none
mutual
def ex : S → Env → m Fl
  | .pass, ρ => M.pure (.nx ρ)
  | .asg i e, ρ => M.bind (ev M C F G e (frz (esc false e) ρ)) fun d => M.pure (.nx ((frz (esc false e) ρ).set i (slotOf e d)))
  | .asgp is es, ρ => M.bind (evs M C F G es (frz (escs es) ρ)) fun ds => M.bind (M.lift (setAll is es ds (frz (escs es) ρ))) fun ρ' => M.pure (.nx ρ')
  | .asgt p e, ρ => M.bind (ev M C F G e (frz (esc false e) ρ)) fun d => M.bind (M.lift (bindP p d (frz (esc false e) ρ))) fun ρ' => M.pure (.nx ρ')
  | .aug i o e, ρ => M.bind (M.lift (getV ρ i)) fun x => M.bind (ev M C F G e (frz (esc false e) ρ)) fun y => M.bind (M.lift (int? x)) fun a => M.bind (M.lift (int? y)) fun b =>
      M.bind (M.lift (dBin o (.int a) (.int b))) fun z => M.pure (.nx ((frz (esc false e) ρ).set i (.sh z)))
  | .app i e, ρ => M.bind (M.lift (getO (frz (esc false e) ρ) i)) fun x => M.bind (ev M C F G e (frz (esc false e) ρ)) fun d => M.bind (M.lift (dApp d x)) fun y => M.pure (.nx ((frz (esc false e) ρ).set i (.ow y)))
  | .ext i e, ρ => M.bind (M.lift (getO (frz (esc false e) ρ) i)) fun x => M.bind (ev M C F G e (frz (esc false e) ρ)) fun d => M.bind (M.lift (dExt d x)) fun y => M.pure (.nx ((frz (esc false e) ρ).set i (.ow y)))
  | .ins0 i e, ρ => M.bind (M.lift (getO (frz (esc false e) ρ) i)) fun x => M.bind (ev M C F G e (frz (esc false e) ρ)) fun d => M.bind (M.lift (dIns0 d x)) fun y => M.pure (.nx ((frz (esc false e) ρ).set i (.ow y)))
  | .seti i k e, ρ => M.bind (M.lift (getO (frz (esc false e ++ esc false k) ρ) i)) fun x => M.bind (ev M C F G e (frz (esc false e ++ esc false k) ρ)) fun d => M.bind (ev M C F G k (frz (esc false e ++ esc false k) ρ)) fun j =>
      M.bind (M.lift (dSet j d x)) fun y => M.pure (.nx ((frz (esc false e ++ esc false k) ρ).set i (.ow y)))
  | .augi i k o e, ρ => M.bind (M.lift (getO (frz (esc false e ++ esc false k) ρ) i)) fun x => M.bind (ev M C F G k (frz (esc false e ++ esc false k) ρ)) fun j => M.bind (M.lift (dIx x j)) fun old =>
      M.bind (ev M C F G e (frz (esc false e ++ esc false k) ρ)) fun y => M.bind (M.lift (int? old)) fun a => M.bind (M.lift (int? y)) fun b => M.bind (M.lift (dBin o (.int a) (.int b))) fun z =>
      M.bind (M.lift (dSet j z x)) fun y => M.pure (.nx ((frz (esc false e ++ esc false k) ρ).set i (.ow y)))
  | .upd i e, ρ => M.bind (M.lift (getO (frz (esc false e) ρ) i)) fun x => M.bind (ev M C F G e (frz (esc false e) ρ)) fun d => M.bind (M.lift (dUpd d x)) fun y => M.pure (.nx ((frz (esc false e) ρ).set i (.ow y)))
  | .popt p i, ρ => M.bind (M.lift (getO ρ i)) fun x => M.bind (M.lift (dPop x)) fun y => M.bind (M.lift (bindP p y.1 (ρ.set i (.ow y.2)))) fun ρ' => M.pure (.nx ρ')
  | .ite t a b, ρ => M.bind (ev M C F G t (frz (esc true t) ρ)) fun x => M.bind (M.lift (bool? x)) fun t' => if t' = true then exs a (frz (esc true t) ρ) else exs b (frz (esc true t) ρ)
  | .whl t b, ρ => M.whl (whlStep M (esc true t) (fun ρ => M.bind (ev M C F G t ρ) fun x => M.lift (bool? x)) (exs b) (frz (esc true t) ρ)) (frz (esc true t) ρ)
  | .for_ p s b, ρ => M.bind (evS M C F G s (frz (escF s) ρ)) fun xs => forL M (fun d ρ => M.bind (M.lift (bindP p d ρ)) fun ρ => exs b ρ) (frz (escF s) ρ) xs (frz (escF s) ρ)
  | .ret e, ρ => M.bind (ev M C F G e (frz (esc false e) ρ)) fun d => M.pure (.rt d)
  | .brk, ρ => M.pure (.bk ρ)
  | .bad, _ => M.fail
def exs : Ss → Env → m Fl
  | .nil, ρ => M.pure (.nx ρ)
  | .cons s r, ρ => M.bind (ex s ρ) fun
    | .nx ρ => exs r ρ
    | .rt d => M.pure (.rt d)
    | .bk ρ => M.pure (.bk ρ)
end
/-- a def of n names: its parameters first -/
def run (n : Nat) (b : Ss) (args : List D) : m D :=
  M.bind (exs M C F G b (args.map .sh ++ List.replicate (n - args.length) .no)) fun
    | .nx _ => M.pure .none
    | .rt d => M.pure d
    | .bk _ => M.fail
end
end PV

/-! PV: the two monads; what is reckoned in Option holds in every predicate transformer. -/
namespace PV
open PySem

def whN (step : Env → Option (Env ⊕ Fl)) : Nat → Env → Option Fl
  | 0, _ => none
  | n + 1, ρ => match step ρ with
    | none => none
    | some (.inl ρ') => whN step n ρ'
    | some (.inr f) => some f
theorem whN_mono {step : Env → Option (Env ⊕ Fl)} : ∀ {n : Nat} {ρ : Env} {f : Fl}, whN step n ρ = some f → ∀ {k : Nat}, n ≤ k → whN step k ρ = some f
  | 0, _, _, h, _, _ => by cases h
  | n + 1, ρ, f, h, 0, hk => by omega
  | n + 1, ρ, f, h, k + 1, hk => by
    unfold whN at h ⊢
    cases e : step ρ with
    | none => rw [e] at h; cases h
    | some r =>
      rw [e] at h
      cases r with
      | inl ρ' => exact whN_mono (n := n) h (by omega)
      | inr g => exact h
open Classical in
noncomputable def whO (step : Env → Option (Env ⊕ Fl)) (ρ : Env) : Option Fl :=
  if h : ∃ n, (whN step n ρ).isSome = true then whN step h.choose ρ else none
theorem whO_of {step : Env → Option (Env ⊕ Fl)} {n : Nat} {ρ : Env} {f : Fl} (h : whN step n ρ = some f) : whO step ρ = some f := by
  have hx : ∃ n, (whN step n ρ).isSome = true := ⟨n, by rw [h]; rfl⟩
  unfold whO
  rw [dif_pos hx]
  obtain ⟨g, hg⟩ := Option.isSome_iff_exists.mp hx.choose_spec
  rw [hg]
  have a := whN_mono hg (Nat.le_max_left hx.choose n)
  have b := whN_mono h (Nat.le_max_right hx.choose n)
  rw [a] at b
  exact b
theorem whO_ex {step : Env → Option (Env ⊕ Fl)} {ρ : Env} {f : Fl} (h : whO step ρ = some f) : ∃ n, whN step n ρ = some f := by
  unfold whO at h
  split at h
  · exact ⟨_, h⟩
  · cases h
/-- a turn of a while -/
theorem whO_next {step : Env → Option (Env ⊕ Fl)} {ρ ρ' : Env} (h : step ρ = some (.inl ρ')) : whO step ρ = whO step ρ' := by
  cases e : whO step ρ' with
  | some f =>
    obtain ⟨n, hn⟩ := whO_ex e
    refine whO_of (n := n + 1) ?_
    unfold whN
    rw [h]
    exact hn
  | none =>
    cases e2 : whO step ρ with
    | none => rfl
    | some f =>
      obtain ⟨n, hn⟩ := whO_ex e2
      cases n with
      | zero => cases hn
      | succ n =>
        unfold whN at hn
        rw [h] at hn
        rw [whO_of hn] at e
        cases e
theorem whO_end {step : Env → Option (Env ⊕ Fl)} {ρ : Env} {f : Fl} (h : step ρ = some (.inr f)) : whO step ρ = some f := by
  refine whO_of (n := 1) ?_
  unfold whN
  rw [h]

noncomputable def optM : Mo Option where
  pure := some
  bind := Option.bind
  fail := none
  whl := whO
abbrev W (α : Type) := (α → Prop) → Prop
def wWhl (step : Env → W (Env ⊕ Fl)) (ρ : Env) : W Fl := fun Q => ∃ J : Nat → Env → Prop, (∃ n, J n ρ) ∧ ∀ n ρ, J n ρ → step ρ fun
  | .inl ρ' => ∃ k, k < n ∧ J k ρ'
  | .inr f => Q f
def wM : Mo W where
  pure a Q := Q a
  bind x f Q := x fun a => f a Q
  fail _ := False
  whl := wWhl

/-- x gives what o gives -/
def Gv {α : Type} (o : Option α) (x : W α) : Prop := ∀ a, o = some a → ∀ Q : α → Prop, Q a → x Q
theorem Gv.pure {α : Type} {a : α} : Gv (optM.pure a) (wM.pure a) := fun b h Q q => by
  have e : a = b := Option.some.inj h
  subst e
  exact q
theorem Gv.fail {α : Type} {x : W α} : Gv (optM.fail : Option α) x := fun b h => by cases h
theorem Gv.bind {α β : Type} {o : Option α} {x : W α} {f : α → Option β} {g : α → W β} (h : Gv o x) (k : ∀ a, Gv (f a) (g a)) : Gv (optM.bind o f) (wM.bind x g) := fun b e Q q => by
  have e' : o.bind f = some b := e
  cases ho : o with
  | none => rw [ho] at e'; cases e'
  | some a =>
    rw [ho] at e'
    exact h a ho _ (k a b e' Q q)
theorem Gv.lift {α : Type} (o : Option α) : Gv (optM.lift o) (wM.lift o) := by
  cases o with
  | none => exact Gv.fail
  | some a => exact Gv.pure
theorem Gv.ite {α : Type} {c : Prop} [Decidable c] {o o' : Option α} {x x' : W α} (h : Gv o x) (h' : Gv o' x') : Gv (if c then o else o') (if c then x else x') := by
  split
  · exact h
  · exact h'
theorem Gv.whl {s : Env → Option (Env ⊕ Fl)} {t : Env → W (Env ⊕ Fl)} (h : ∀ ρ, Gv (s ρ) (t ρ)) (ρ : Env) : Gv (optM.whl s ρ) (wM.whl t ρ) := fun f e Q q => by
  obtain ⟨n, hn⟩ := whO_ex (show whO s ρ = some f from e)
  refine ⟨fun n ρ => whN s n ρ = some f, ⟨n, hn⟩, fun n ρ hJ => ?_⟩
  cases n with
  | zero => cases hJ
  | succ n =>
    unfold whN at hJ
    cases e2 : s ρ with
    | none => rw [e2] at hJ; cases hJ
    | some r =>
      rw [e2] at hJ
      refine h ρ r e2 _ ?_
      cases r with
      | inl ρ' => exact ⟨n, Nat.lt_succ_self n, hJ⟩
      | inr g =>
        have e3 : g = f := Option.some.inj hJ
        subst e3
        exact q
section
variable {C : Nat → Option D} {F G : Nat → List D → Option D} {F' G' : Nat → List D → W D}
theorem gv_compL {g : D → Option (Option D)} {g' : D → W (Option D)} (h : ∀ d, Gv (g d) (g' d)) : ∀ xs, Gv (compL optM g xs) (compL wM g' xs)
  | [] => Gv.pure
  | x :: xs => (h x).bind fun o => (gv_compL h xs).bind fun ys => Gv.pure
theorem gv_compLL {s : D → Option (Option (Env × List D))} {s' : D → W (Option (Env × List D))} {g : Env → D → Option (Option D)} {g' : Env → D → W (Option D)} (hs : ∀ d, Gv (s d) (s' d)) (h : ∀ ρ d, Gv (g ρ d) (g' ρ d)) :
    ∀ acc xs, Gv (compLL optM s g acc xs) (compLL wM s' g' acc xs)
  | acc, [] => Gv.pure
  | acc, x :: xs => (hs x).bind fun o => match o with
    | none => gv_compLL hs h acc xs
    | some (ρ, zs) => Gv.ite ((gv_compL (h ρ) zs).bind fun ys => gv_compLL hs h (acc ++ ys) xs) Gv.fail
theorem gv_forL {g : D → Env → Option Fl} {g' : D → Env → W Fl} (h : ∀ d ρ, Gv (g d ρ) (g' d ρ)) (ρ0 : Env) : ∀ xs ρ, Gv (forL optM g ρ0 xs ρ) (forL wM g' ρ0 xs ρ)
  | [], ρ => Gv.pure
  | x :: xs, ρ => (h x ρ).bind fun f => match f with
    | .nx ρ' => gv_forL h ρ0 xs (msk ρ0 ρ')
    | .rt d => Gv.pure
    | .bk ρ' => Gv.pure
theorem gv_step {c : Env → Option Bool} {c' : Env → W Bool} {b : Env → Option Fl} {b' : Env → W Fl} (hc : ∀ ρ, Gv (c ρ) (c' ρ)) (hb : ∀ ρ, Gv (b ρ) (b' ρ)) (vs : List Nat) (ρ0 ρ : Env) : Gv (whlStep optM vs c b ρ0 ρ) (whlStep wM vs c' b' ρ0 ρ) :=
  (hc ρ).bind fun t => Gv.ite ((hb ρ).bind fun f => match f with
    | .nx ρ' => Gv.pure
    | .rt d => Gv.pure
    | .bk ρ' => Gv.pure) Gv.pure
variable (hF : ∀ n ds, Gv (F n ds) (F' n ds)) (hG : ∀ n ds, Gv (G n ds) (G' n ds))
include hF hG
mutual
theorem gv_ev : ∀ (e : E) (ρ : Env), Gv (ev optM C F G e ρ) (ev wM C F' G' e ρ)
  | .none, _ => by unfold ev; exact Gv.pure
  | .bl b, _ => by unfold ev; exact Gv.pure
  | .int i, _ => by unfold ev; exact Gv.pure
  | .str s, _ => by unfold ev; exact Gv.pure
  | .var i, ρ => by unfold ev; exact Gv.lift _
  | .gl n, _ => by unfold ev; exact Gv.lift _
  | .bin o a b, ρ => by unfold ev; exact (gv_ev a ρ).bind fun x => (gv_ev b ρ).bind fun y => Gv.lift _
  | .neg a, ρ => by unfold ev; exact (gv_ev a ρ).bind fun x => Gv.lift _
  | .not a, ρ => by unfold ev; exact (gv_ev a ρ).bind fun x => Gv.lift _
  | .and a b, ρ => by unfold ev; exact (gv_ev a ρ).bind fun x => (Gv.lift _).bind fun t => Gv.ite (gv_ev b ρ) Gv.pure
  | .or a b, ρ => by unfold ev; exact (gv_ev a ρ).bind fun x => (Gv.lift _).bind fun t => Gv.ite Gv.pure (gv_ev b ρ)
  | .cmp c a b, ρ => by unfold ev; exact (gv_ev a ρ).bind fun x => (gv_ev b ρ).bind fun y => Gv.lift _
  | .chain c c' a b d, ρ => by unfold ev; exact (gv_ev a ρ).bind fun x => (gv_ev b ρ).bind fun y => (Gv.lift _).bind fun t => Gv.ite ((gv_ev d ρ).bind fun z => Gv.lift _) Gv.pure
  | .chain3 c c' c2 a b d g, ρ => by unfold ev; exact (gv_ev a ρ).bind fun x => (gv_ev b ρ).bind fun y => (Gv.lift _).bind fun t => Gv.ite ((gv_ev d ρ).bind fun z => (Gv.lift _).bind fun t => Gv.ite ((gv_ev g ρ).bind fun u => Gv.lift _) Gv.pure) Gv.pure
  | .ife t a b, ρ => by unfold ev; exact (gv_ev t ρ).bind fun x => (Gv.lift _).bind fun t => Gv.ite (gv_ev a ρ) (gv_ev b ρ)
  | .tup es, ρ => by unfold ev; exact (gv_evs es ρ).bind fun ds => Gv.pure
  | .lst es, ρ => by unfold ev; exact (gv_evs es ρ).bind fun ds => Gv.pure
  | .dct0, _ => by unfold ev; exact Gv.pure
  | .ix a i, ρ => by unfold ev; exact (gv_ev a ρ).bind fun x => (gv_ev i ρ).bind fun y => Gv.lift _
  | .sl a lo hi, ρ => by unfold ev; exact (gv_ev a ρ).bind fun x => (gv_ev lo ρ).bind fun y => (Gv.lift _).bind fun l => (gv_ev hi ρ).bind fun z => (Gv.lift _).bind fun h => Gv.lift _
  | .rev a, ρ => by unfold ev; exact (gv_ev a ρ).bind fun x => Gv.lift _
  | .yes, _ => by unfold ev; exact Gv.pure
  | .comp own p s t elt, ρ => by
    unfold ev
    exact (gv_evS s ρ).bind fun xs => (gv_compL (fun d => (Gv.lift _).bind fun ρ1 => (gv_ev t ρ1).bind fun x => (Gv.lift _).bind fun b => Gv.ite ((gv_ev elt ρ1).bind fun y => Gv.pure) Gv.pure) xs).bind fun ys => Gv.pure
  | .comp2 own own1 p s t p1 s1 t1 elt, ρ => by
    unfold ev
    exact (gv_evS s ρ).bind fun xs => (gv_compLL (fun d => (Gv.lift _).bind fun ρ1 => (gv_ev t ρ1).bind fun x => (Gv.lift _).bind fun b => Gv.ite ((gv_evS s1 ρ1).bind fun zs => Gv.pure) Gv.pure)
      (fun ρ1 d => (Gv.lift _).bind fun ρ2 => (gv_ev t1 ρ2).bind fun x => (Gv.lift _).bind fun b => Gv.ite ((gv_ev elt ρ2).bind fun y => Gv.pure) Gv.pure) [] xs).bind fun ys => Gv.pure
  | .call f es, ρ => by unfold ev; exact (gv_evs es ρ).bind fun ds => hF f ds
  | .callw f es, ρ => by unfold ev; exact (gv_evs es ρ).bind fun ds => hG f ds
  | .bi b a, ρ => by unfold ev; exact (gv_ev a ρ).bind fun x => Gv.lift _
  | .bis b s, ρ => by unfold ev; exact (gv_evS s ρ).bind fun x => Gv.lift _
  | .mx a b, ρ => by unfold ev; exact (gv_ev a ρ).bind fun x => (gv_ev b ρ).bind fun y => Gv.lift _
  | .mn a b, ρ => by unfold ev; exact (gv_ev a ρ).bind fun x => (gv_ev b ρ).bind fun y => Gv.lift _
  | .isin a t, ρ => by unfold ev; exact (gv_ev a ρ).bind fun x => Gv.pure
  | .count a x, ρ => by unfold ev; exact (gv_ev a ρ).bind fun x => (gv_ev _ ρ).bind fun y => Gv.lift _
  | .index a x, ρ => by unfold ev; exact (gv_ev a ρ).bind fun x => (gv_ev _ ρ).bind fun y => Gv.lift _
  | .get1 a k, ρ => by unfold ev; exact (gv_ev a ρ).bind fun x => (gv_ev k ρ).bind fun y => Gv.lift _
  | .get2 a k d, ρ => by unfold ev; exact (gv_ev a ρ).bind fun x => (gv_ev k ρ).bind fun y => (gv_ev d ρ).bind fun z => Gv.lift _
  | .bad, _ => by unfold ev; exact Gv.fail
theorem gv_evs : ∀ (es : Es) (ρ : Env), Gv (evs optM C F G es ρ) (evs wM C F' G' es ρ)
  | .nil, _ => by unfold evs; exact Gv.pure
  | .cons e es, ρ => by unfold evs; exact (gv_ev e ρ).bind fun d => (gv_evs es ρ).bind fun ds => Gv.pure
theorem gv_evS : ∀ (s : Src) (ρ : Env), Gv (evS optM C F G s ρ) (evS wM C F' G' s ρ)
  | .val e, ρ => by unfold evS; exact (gv_ev e ρ).bind fun d => Gv.lift _
  | .r1 a, ρ => by unfold evS; exact (gv_ev a ρ).bind fun x => (Gv.lift _).bind fun i => Gv.ite Gv.pure Gv.fail
  | .r2 a b, ρ => by unfold evS; exact (gv_ev a ρ).bind fun x => (Gv.lift _).bind fun i => (gv_ev b ρ).bind fun y => (Gv.lift _).bind fun j => Gv.ite Gv.pure Gv.fail
  | .r3 a b c, ρ => by unfold evS; exact (gv_ev a ρ).bind fun x => (Gv.lift _).bind fun i => (gv_ev b ρ).bind fun y => (Gv.lift _).bind fun j => (gv_ev c ρ).bind fun z => (Gv.lift _).bind fun k => Gv.ite Gv.pure Gv.fail
  | .zip a b, ρ => by unfold evS; exact (gv_ev a ρ).bind fun x => (gv_ev b ρ).bind fun y => Gv.lift _
end
mutual
theorem gv_ex : ∀ (s : S) (ρ : Env), Gv (ex optM C F G s ρ) (ex wM C F' G' s ρ)
  | .pass, ρ => by unfold ex; exact Gv.pure
  | .asg i e, ρ => by unfold ex; exact (gv_ev hF hG e _).bind fun d => Gv.pure
  | .asgp is es, ρ => by unfold ex; exact (gv_evs hF hG es _).bind fun ds => (Gv.lift _).bind fun ρ' => Gv.pure
  | .asgt p e, ρ => by unfold ex; exact (gv_ev hF hG e _).bind fun d => (Gv.lift _).bind fun ρ' => Gv.pure
  | .aug i o e, ρ => by unfold ex; exact (Gv.lift _).bind fun x => (gv_ev hF hG e _).bind fun y => (Gv.lift _).bind fun a => (Gv.lift _).bind fun b => (Gv.lift _).bind fun z => Gv.pure
  | .app i e, ρ => by unfold ex; exact (Gv.lift _).bind fun x => (gv_ev hF hG e _).bind fun d => (Gv.lift _).bind fun y => Gv.pure
  | .ext i e, ρ => by unfold ex; exact (Gv.lift _).bind fun x => (gv_ev hF hG e _).bind fun d => (Gv.lift _).bind fun y => Gv.pure
  | .ins0 i e, ρ => by unfold ex; exact (Gv.lift _).bind fun x => (gv_ev hF hG e _).bind fun d => (Gv.lift _).bind fun y => Gv.pure
  | .seti i k e, ρ => by unfold ex; exact (Gv.lift _).bind fun x => (gv_ev hF hG e _).bind fun d => (gv_ev hF hG k _).bind fun j => (Gv.lift _).bind fun y => Gv.pure
  | .augi i k o e, ρ => by
    unfold ex
    exact (Gv.lift _).bind fun x => (gv_ev hF hG k _).bind fun j => (Gv.lift _).bind fun old => (gv_ev hF hG e _).bind fun y => (Gv.lift _).bind fun a => (Gv.lift _).bind fun b => (Gv.lift _).bind fun z => (Gv.lift _).bind fun y => Gv.pure
  | .upd i e, ρ => by unfold ex; exact (Gv.lift _).bind fun x => (gv_ev hF hG e _).bind fun d => (Gv.lift _).bind fun y => Gv.pure
  | .popt p i, ρ => by unfold ex; exact (Gv.lift _).bind fun x => (Gv.lift _).bind fun y => (Gv.lift _).bind fun ρ' => Gv.pure
  | .ite t a b, ρ => by unfold ex; exact (gv_ev hF hG t _).bind fun x => (Gv.lift _).bind fun t' => Gv.ite (gv_exs a _) (gv_exs b _)
  | .whl t b, ρ => by unfold ex; exact Gv.whl (fun ρ => gv_step (fun ρ => (gv_ev hF hG t ρ).bind fun x => Gv.lift _) (fun ρ => gv_exs b ρ) _ _ ρ) _
  | .for_ p s b, ρ => by unfold ex; exact (gv_evS hF hG s _).bind fun xs => gv_forL (fun d ρ => (Gv.lift _).bind fun ρ => gv_exs b ρ) _ xs _
  | .ret e, ρ => by unfold ex; exact (gv_ev hF hG e _).bind fun d => Gv.pure
  | .brk, ρ => by unfold ex; exact Gv.pure
  | .bad, _ => by unfold ex; exact Gv.fail
theorem gv_exs : ∀ (s : Ss) (ρ : Env), Gv (exs optM C F G s ρ) (exs wM C F' G' s ρ)
  | .nil, ρ => by unfold exs; exact Gv.pure
  | .cons s r, ρ => by
    unfold exs
    exact (gv_ex s ρ).bind fun f => match f with
      | .nx ρ => gv_exs r ρ
      | .rt d => Gv.pure
      | .bk ρ => Gv.pure
end
theorem gv_run (n : Nat) (b : Ss) (args : List D) : Gv (run optM C F G n b args) (run wM C F' G' n b args) := by
  unfold run
  exact (gv_exs hF hG b _).bind fun f => match f with
    | .nx _ => Gv.pure
    | .rt d => Gv.pure
    | .bk _ => Gv.fail
end
end PV

/-! PV: how data lies in the abstract heap. -/
namespace PV
open PySem L2

def Le (H H' : Hp) : Prop := ∀ a o, H a = some o → H' a = some o
theorem Le.refl (H : Hp) : Le H H := fun _ _ h => h
theorem Le.trans {H H1 H2 : Hp} (a : Le H H1) (b : Le H1 H2) : Le H H2 := fun x o h => b x o (a x o h)
theorem Le.new {H : Hp} {p : Addr} {o : HO} (h : H p = none) : Le H (upd H p o) := Evl.Ex.new h
theorem Le.rd {H H' : Hp} {a : Addr} {u : HO} (e : Le H H') (h : Rd H a u) : Rd H' a u := Evl.ex_rd e h
theorem Le.sl {K : PySem.W.Frag} {H H' : Hp} {a : Addr} {xs : List V} (e : Le H H') (h : SqL K H a xs) : SqL K H' a xs := Evl.ex_l e h
theorem Le.st {K : PySem.W.Frag} {H H' : Hp} {a : Addr} {xs : List V} (e : Le H H') (h : SqT K H a xs) : SqT K H' a xs := Evl.ex_t e h
/-- the objects at O taken out -/
def hid (O : List Addr) (H : Hp) : Hp := fun a => if O.contains a then none else H a
theorem hid_le (O : List Addr) (H : Hp) : Le (hid O H) H := fun a o h => by
  unfold hid at h
  split at h
  · cases h
  · exact h
theorem hid_mono {O : List Addr} {H H' : Hp} (e : ∀ a o, a ∉ O → H a = some o → H' a = some o) : Le (hid O H) (hid O H') := fun a o h => by
  unfold hid at h ⊢
  split at h
  · cases h
  · rename_i hn
    rw [if_neg hn]
    exact e a o (fun hm => hn (by simpa using hm)) h
theorem hid_le_mono {O : List Addr} {H H' : Hp} (e : Le H H') : Le (hid O H) (hid O H') := hid_mono fun a o _ h => e a o h
theorem hid_sub {O O' : List Addr} {H : Hp} (s : ∀ a, a ∈ O' → a ∈ O) : Le (hid O H) (hid O' H) := fun a o h => by
  unfold hid at h ⊢
  split at h
  · cases h
  · rename_i hn
    rw [if_neg fun hm => hn (by simpa using s a (by simpa using hm))]
    exact h
theorem hid_out {O : List Addr} {H : Hp} {a : Addr} {o : HO} (h : hid O H a = some o) : a ∉ O := fun hm => by
  unfold hid at h
  rw [if_pos (by simpa using hm)] at h
  cases h
theorem hid_in {O : List Addr} {H : Hp} {a : Addr} {o : HO} (h : a ∉ O) (e : H a = some o) : hid O H a = some o := by
  unfold hid
  rw [if_neg fun hm => h (by simpa using hm)]
  exact e
theorem hid_nil (H : Hp) : hid [] H = H := by
  funext a
  unfold hid
  simp
/-- an object at O changes: nothing is seen of it -/
theorem hid_upd {O : List Addr} {H : Hp} {p : Addr} {o : HO} (h : p ∈ O) : hid O (upd H p o) = hid O H := by
  funext a
  unfold hid upd
  by_cases ha : O.contains a
  · rw [if_pos ha, if_pos ha]
  · rw [if_neg ha, if_neg ha, if_neg]
    intro e
    exact ha (by rw [e]; simpa using h)

mutual
inductive Rp (K : PySem.W.Frag) (H : Hp) : V → D → Prop
  | non : Rp K H .non .none
  | bl (b : Bool) : Rp K H (.bl b) (.bool b)
  | int (i : Int) : Rp K H (.int i) (.int i)
  | str (x : Str) : Rp K H (.str x) (.str x)
  | lst {a : Addr} {xs : List V} {ds : List D} : H a = some (.lst xs) → Rps K H xs ds → Rp K H (.ref a) (.list ds)
  | tup {a : Addr} {xs : List V} {ds : List D} : SqT K H a xs → Rps K H xs ds → Rp K H (.ref a) (.tuple ds)
inductive Rps (K : PySem.W.Frag) (H : Hp) : List V → List D → Prop
  | nil : Rps K H [] []
  | cons {v : V} {vs : List V} {d : D} {ds : List D} : Rp K H v d → Rps K H vs ds → Rps K H (v :: vs) (d :: ds)
end
section
variable {K : PySem.W.Frag} {H H' : Hp}
mutual
theorem Rp.mono (e : Le H H') : ∀ {d : D} {v : V}, Rp K H v d → Rp K H' v d
  | .none, _, h => by cases h; exact .non
  | .bool b, _, h => by cases h; exact .bl b
  | .int i, _, h => by cases h; exact .int i
  | .str x, _, h => by cases h; exact .str x
  | .list ds, _, h => by cases h with | lst hs ha => exact .lst (e _ _ hs) (Rps.mono e ha)
  | .tuple ds, _, h => by cases h with | tup hs ha => exact .tup (e.st hs) (Rps.mono e ha)
  | .dict _, _, h => by cases h
theorem Rps.mono (e : Le H H') : ∀ {ds : List D} {vs : List V}, Rps K H vs ds → Rps K H' vs ds
  | [], _, h => by cases h; exact .nil
  | d :: ds, _, h => by cases h with | cons h1 h2 => exact .cons (Rp.mono e h1) (Rps.mono e h2)
end
mutual
theorem Rp.dp : ∀ {d : D} {v : V}, Rp K H v d → Dp K H v d
  | .none, _, h => by cases h; exact .non
  | .bool b, _, h => by cases h; exact .bl b
  | .int i, _, h => by cases h; exact .int i
  | .str x, _, h => by cases h; exact .str x
  | .list ds, _, h => by cases h with | lst hs ha => exact .lst (.inl (.inl hs)) (Rps.dp ha)
  | .tuple ds, _, h => by cases h with | tup hs ha => exact .tup hs (Rps.dp ha)
  | .dict _, _, h => by cases h
theorem Rps.dp : ∀ {ds : List D} {vs : List V}, Rps K H vs ds → DpAll K H vs ds
  | [], _, h => by cases h; exact .nil
  | d :: ds, _, h => by cases h with | cons h1 h2 => exact .cons (Rp.dp h1) (Rps.dp h2)
end
theorem Rps.length : ∀ {vs : List V} {ds : List D}, Rps K H vs ds → vs.length = ds.length
  | _, _, .nil => rfl
  | _, _, .cons _ t => by simp [Rps.length t]
theorem Rps.append : ∀ {vs ws : List V} {ds es : List D}, Rps K H vs ds → Rps K H ws es → Rps K H (vs ++ ws) (ds ++ es)
  | _, _, _, _, .nil, h => h
  | _, _, _, _, .cons a t, h => .cons a (Rps.append t h)
theorem Rps.get : ∀ {vs : List V} {ds : List D} {i : Nat} {v : V}, Rps K H vs ds → vs[i]? = some v → ∃ d, ds[i]? = some d ∧ Rp K H v d
  | _, _, _, _, .nil, e => by simp at e
  | _, _, 0, _, .cons r _, e => by simp at e; subst e; exact ⟨_, rfl, r⟩
  | _, _, i + 1, v, .cons _ t, e => by
    obtain ⟨d, h1, h2⟩ := Rps.get (i := i) (v := v) t (by simpa using e)
    exact ⟨d, by simpa using h1, h2⟩
theorem Rps.getD : ∀ {vs : List V} {ds : List D} {i : Nat} {d : D}, Rps K H vs ds → ds[i]? = some d → ∃ v, vs[i]? = some v ∧ Rp K H v d
  | _, _, _, _, .nil, e => by simp at e
  | _, _, 0, _, .cons r _, e => by simp at e; subst e; exact ⟨_, rfl, r⟩
  | _, _, i + 1, d, .cons _ t, e => by
    obtain ⟨v, h1, h2⟩ := Rps.getD (i := i) (d := d) t (by simpa using e)
    exact ⟨v, by simpa using h1, h2⟩
theorem Rps.set {v : V} {d : D} (r : Rp K H v d) : ∀ {vs : List V} {ds : List D} (i : Nat), Rps K H vs ds → Rps K H (vs.set i v) (ds.set i d)
  | _, _, _, .nil => .nil
  | _, _, 0, .cons _ t => .cons r t
  | _, _, i + 1, .cons q t => .cons q (Rps.set r i t)
theorem Rps.take : ∀ {vs : List V} {ds : List D} (n : Nat), Rps K H vs ds → Rps K H (vs.take n) (ds.take n)
  | _, _, 0, _ => by simp; exact .nil
  | _, _, _ + 1, .nil => .nil
  | _, _, n + 1, .cons r t => .cons r (Rps.take n t)
theorem Rps.drop : ∀ {vs : List V} {ds : List D} (n : Nat), Rps K H vs ds → Rps K H (vs.drop n) (ds.drop n)
  | _, _, 0, r => r
  | _, _, _ + 1, .nil => .nil
  | _, _, n + 1, .cons _ t => Rps.drop n t
theorem Rps.dropLast {vs : List V} {ds : List D} (h : Rps K H vs ds) : Rps K H vs.dropLast ds.dropLast := by
  rw [List.dropLast_eq_take, List.dropLast_eq_take, h.length]
  exact h.take _
theorem Rps.reverse : ∀ {vs : List V} {ds : List D}, Rps K H vs ds → Rps K H vs.reverse ds.reverse
  | _, _, .nil => .nil
  | _, _, .cons r t => by
    rw [List.reverse_cons, List.reverse_cons]
    exact (Rps.reverse t).append (.cons r .nil)
theorem Rps.flat {vs : List V} {ds : List D} (h : Rps K H vs ds) : ∀ n : Nat, Rps K H (List.replicate n vs).flatten (List.replicate n ds).flatten
  | 0 => .nil
  | n + 1 => by
    rw [List.replicate_succ, List.replicate_succ, List.flatten_cons, List.flatten_cons]
    exact h.append (Rps.flat h n)
theorem Rps.cut {vs : List V} {ds : List D} (h : Rps K H vs ds) (lo hi : Option Int) : Rps K H (cutV vs lo hi) (PV.cut ds lo hi) := by
  unfold cutV PV.cut
  rw [h.length]
  exact (h.drop _).take _
theorem Rps.nil_iff {vs : List V} {ds : List D} (h : Rps K H vs ds) : vs = [] ↔ ds = [] := by
  constructor
  · intro e
    subst e
    cases h
    rfl
  · intro e
    subst e
    cases h
    rfl
theorem Rps.ints : ∀ {vs : List V} {ds : List D} {ns : List Int}, Rps K H vs ds → ints? ds = some ns → vs = ns.map V.int
  | _, _, ns, .nil, e => by
    have : ([] : List Int) = ns := Option.some.inj e
    subst this
    rfl
  | _, d :: ds, ns, .cons r t, e => by
    cases d with
    | int i =>
      unfold ints? at e
      cases hq : ints? ds with
      | none => rw [hq] at e; cases e
      | some ms =>
        rw [hq] at e
        have : i :: ms = ns := Option.some.inj e
        subst this
        cases r
        rw [Rps.ints t hq]
        rfl
    | _ => cases e
theorem Rps.bools : ∀ {vs : List V} {ds : List D} {ns : List Bool}, Rps K H vs ds → bools? ds = some ns → vs = ns.map V.bl
  | _, _, ns, .nil, e => by
    have : ([] : List Bool) = ns := Option.some.inj e
    subst this
    rfl
  | _, d :: ds, ns, .cons r t, e => by
    cases d with
    | bool i =>
      unfold bools? at e
      cases hq : bools? ds with
      | none => rw [hq] at e; cases e
      | some ms =>
        rw [hq] at e
        have : i :: ms = ns := Option.some.inj e
        subst this
        cases r
        rw [Rps.bools t hq]
        rfl
    | _ => cases e
end
section
variable {X : Cx} {pins : List (Addr × Obj)} {σ : L2.St} {H : Hp} {s : Shared}
theorem Rp.reads (I : Inv X pins σ H s) {v : V} {d : D} {u : Value} (h : Rp X.K H v d) (r : RelV v u) : ∃ as, Reads s.heap u d as := Dp.reads I d v u h.dp r
theorem Rps.reads (I : Inv X pins σ H s) {vs : List V} {ds : List D} {us : List Value} (h : Rps X.K H vs ds) (r : Vals vs us) : ∃ as, ReadsAll s.heap us ds as := Dp.readsAll I ds vs us h.dp r
end

/-! ### what a def that draws has beside: the dict w (the place, its list, the draws) -/
abbrev Wp := Option (Addr × Addr × List Int)
def WOk : Wp → Hp → Prop
  | none, _ => True
  | some (pw, pd, ds), H => ∃ j : Int, 0 ≤ j ∧ H pw = some (.dK [(.inr "draws", .ref pd), (.inr "at", .int j)]) ∧ H pd = some (.lst (ds.map .int))
def Wp.is (w : Wp) (a : Addr) : Prop := ∃ t, w = some t ∧ a = t.1
/-- all but w's dict stays -/
def Ext (w : Wp) (H H' : Hp) : Prop := (∀ a o, ¬ w.is a → H a = some o → H' a = some o) ∧ WOk w H'
theorem Ext.refl {w : Wp} {H : Hp} (h : WOk w H) : Ext w H H := ⟨fun _ _ _ e => e, h⟩
theorem Ext.trans {w : Wp} {H H1 H2 : Hp} (a : Ext w H H1) (b : Ext w H1 H2) : Ext w H H2 := ⟨fun x o n e => b.1 x o n (a.1 x o n e), b.2⟩
theorem WOk.le {w : Wp} {H H' : Hp} (h : WOk w H) (e : Le H H') : WOk w H' := by
  cases w with
  | none => trivial
  | some t =>
    obtain ⟨pw, pd, ds⟩ := t
    obtain ⟨j, h0, h1, h2⟩ := h
    exact ⟨j, h0, e _ _ h1, e _ _ h2⟩
theorem Ext.of_le {w : Wp} {H H' : Hp} (h : WOk w H) (e : Le H H') : Ext w H H' := ⟨fun a o _ q => e a o q, h.le e⟩
theorem Ext.new {w : Wp} {H : Hp} {p : Addr} {o : HO} (h : WOk w H) (n : H p = none) : Ext w H (upd H p o) := Ext.of_le h (Le.new n)
theorem Ext.hid {w : Wp} {H H' : Hp} {O : List Addr} (e : Ext w H H') (hw : ∀ a, w.is a → a ∈ O) : Le (hid O H) (PV.hid O H') :=
  hid_mono fun a o n q => e.1 a o (fun z => n (hw a z)) q

/-- a list that one slot alone holds -/
def Own (K : PySem.W.Frag) (O : List Addr) (H : Hp) (p : Addr) (d : D) : Prop :=
  p ∈ O ∧ ∃ ds vs, d = .list ds ∧ H p = some (.lst vs) ∧ Rps K (hid O H) vs ds
def SlotOk (K : PySem.W.Frag) (O : List Addr) (H : Hp) : Slot → Option V → Prop
  | .no, _ => True
  | .sh d, o => ∃ v, o = some v ∧ Rp K (hid O H) v d
  | .ow d, o => ∃ p, o = some (.ref p) ∧ Own K O H p d
  | .fx v, o => o = some v
/-- the slots of a def (their values at σ) are the environment; H0: the heap at the entry, O0: what the callers hold alone; iw: the name w -/
structure Sim (K : PySem.W.Frag) (w : Wp) (iw : Nat) (O0 : List Addr) (H0 : Hp) (O : List Addr) (H : Hp) (σ : L2.St) (ρ : Env) : Prop where
  len : σ.length = ρ.length
  slot : ∀ (i : Nat) (s : Slot), ρ[i]? = some s → SlotOk K O H s (σ[i]?.join)
  inj : ∀ (i j : Nat) (d d' : D) (p : Addr), ρ[i]? = some (.ow d) → ρ[j]? = some (.ow d') → σ[i]? = some (some (.ref p)) → σ[j]? = some (some (.ref p)) → i = j
  dom : ∀ p ∈ O, H p ≠ none
  dom0 : ∀ p ∈ O0, H0 p ≠ none
  sub : ∀ p ∈ O0, p ∈ O
  fresh : ∀ p ∈ O, p ∈ O0 ∨ H0 p = none
  ent : Ext w H0 H
  w0 : WOk w H0
  wO : ∀ a, w.is a → a ∈ O0
  wS : ∀ t, w = some t → σ[iw]? = some (some (.ref t.1)) ∧ ρ[iw]? = some .no
  own : ∀ (i : Nat) (d : D) (p : Addr), ρ[i]? = some (.ow d) → σ[i]? = some (some (.ref p)) → H0 p = none

section
variable {K : PySem.W.Frag} {w : Wp} {iw : Nat} {O0 O : List Addr} {H0 H H' : Hp} {σ : L2.St} {ρ : Env}
theorem Sim.wok (S : Sim K w iw O0 H0 O H σ ρ) : WOk w H := S.ent.2
theorem Sim.wo (S : Sim K w iw O0 H0 O H σ ρ) : ∀ a, w.is a → a ∈ O := fun a h => S.sub a (S.wO a h)
/-- the heap goes on -/
theorem Sim.ext (S : Sim K w iw O0 H0 O H σ ρ) (e : Ext w H H') : Sim K w iw O0 H0 O H' σ ρ where
  len := S.len
  slot := fun i s h => by
    have q := S.slot i s h
    have le := e.hid S.wo
    cases s with
    | no => trivial
    | fx v => exact q
    | sh d =>
      obtain ⟨v, e1, r⟩ := q
      exact ⟨v, e1, r.mono le⟩
    | ow d =>
      obtain ⟨p, e1, hp, ds, vs, e2, hH, r⟩ := q
      refine ⟨p, e1, hp, ds, vs, e2, e.1 p _ (fun hw => ?_) hH, r.mono le⟩
      obtain ⟨t, ht, rfl⟩ := hw
      have wk := S.wok
      rw [ht] at wk
      obtain ⟨j, _, h1, _⟩ := wk
      rw [hH] at h1
      cases h1
  inj := S.inj
  dom := fun p hp hn => by
    cases q : H p with
    | none => exact S.dom p hp q
    | some o =>
      by_cases hw : w.is p
      · obtain ⟨t, ht, rfl⟩ := hw
        have wk := e.2
        rw [ht] at wk
        obtain ⟨j, _, h1, _⟩ := wk
        rw [h1] at hn
        cases hn
      · rw [e.1 p o hw q] at hn
        cases hn
  dom0 := S.dom0
  sub := S.sub
  fresh := S.fresh
  ent := S.ent.trans e
  w0 := S.w0
  wO := S.wO
  wS := S.wS
  own := S.own
theorem getV_sh {i : Nat} {d : D} (h : getV ρ i = some d) : ρ[i]? = some (.sh d) ∨ ρ[i]? = some (.ow d) := by
  unfold getV at h
  cases e : ρ[i]? with
  | none => rw [e] at h; cases h
  | some s =>
    rw [e] at h
    cases s with
    | no => cases h
    | fx _ => cases h
    | sh d' => have : d' = d := Option.some.inj h; subst this; exact .inl rfl
    | ow d' => have : d' = d := Option.some.inj h; subst this; exact .inr rfl
theorem getO_ow {i : Nat} {d : D} (h : getO ρ i = some d) : ρ[i]? = some (.ow d) := by
  unfold getO at h
  cases e : ρ[i]? with
  | none => rw [e] at h; cases h
  | some s =>
    rw [e] at h
    cases s with
    | no => cases h
    | fx _ => cases h
    | sh d' => cases h
    | ow d' => have : d' = d := Option.some.inj h; subst this; rfl
theorem join_some {α : Type} {o : Option (Option α)} {a : α} (h : o.join = some a) : o = some (some a) := by
  cases o with
  | none => cases h
  | some x => exact congrArg some h
/-- a value that is only looked at: it avoids what is held alone, or is such a thing itself -/
def Br (K : PySem.W.Frag) (O : List Addr) (H : Hp) (v : V) (d : D) : Prop := Rp K (hid O H) v d ∨ ∃ p, v = .ref p ∧ Own K O H p d
theorem Own.rp {p : Addr} {d : D} (h : Own K O H p d) : Rp K H (.ref p) d := by
  obtain ⟨hp, ds, vs, e2, hH, r⟩ := h
  subst e2
  exact .lst hH (r.mono (hid_le O H))
theorem Br.rp {v : V} {d : D} (h : Br K O H v d) : Rp K H v d := by
  rcases h with h | ⟨p, rfl, h⟩
  · exact h.mono (hid_le O H)
  · exact h.rp
/-- its items avoid what is held alone -/
theorem Br.items {v : V} {d : D} {ds : List D} (h : Br K O H v d) (e : items d = some ds) : ∃ a vs, v = .ref a ∧ Rps K (hid O H) vs ds ∧ ((d = .list ds ∧ H a = some (.lst vs)) ∨ (d = .tuple ds ∧ SqT K H a vs)) := by
  rcases h with h | ⟨p, rfl, hp, es, vs, rfl, hH, r⟩
  · cases h with
    | lst hs ha =>
      have : _ = ds := Option.some.inj e
      subst this
      exact ⟨_, _, rfl, ha, .inl ⟨rfl, hid_le O H _ _ hs⟩⟩
    | tup hs ha =>
      have : _ = ds := Option.some.inj e
      subst this
      exact ⟨_, _, rfl, ha, .inr ⟨rfl, (hid_le O H).st hs⟩⟩
    | _ => cases e
  · have : es = ds := Option.some.inj e
    subst this
    exact ⟨p, vs, rfl, r, .inl ⟨rfl, hH⟩⟩
theorem Br.ext {v : V} {d : D} (h : Br K O H v d) (e : Ext w H H') (hw : ∀ a, w.is a → a ∈ O) (wk : WOk w H) : Br K O H' v d := by
  rcases h with h | ⟨p, rfl, hp, ds, vs, e2, hH, r⟩
  · exact .inl (h.mono (e.hid hw))
  · refine .inr ⟨p, rfl, hp, ds, vs, e2, e.1 p _ (fun z => ?_) hH, r.mono (e.hid hw)⟩
    obtain ⟨t, ht, rfl⟩ := z
    rw [ht] at wk
    obtain ⟨j, _, h1, _⟩ := wk
    rw [hH] at h1
    cases h1
/-- a name's value -/
theorem Sim.var (S : Sim K w iw O0 H0 O H σ ρ) {i : Nat} {d : D} (h : getV ρ i = some d) : ∃ v, σ[i]? = some (some v) ∧ Br K O H v d ∧ (getO ρ i = none → Rp K (hid O H) v d) := by
  rcases getV_sh h with e | e
  · obtain ⟨v, e1, r⟩ := S.slot i _ e
    exact ⟨v, join_some e1, .inl r, fun _ => r⟩
  · obtain ⟨p, e1, r⟩ := S.slot i _ e
    refine ⟨.ref p, join_some e1, .inr ⟨p, rfl, r⟩, fun z => ?_⟩
    unfold getO at z
    rw [e] at z
    cases z
end
end PV

set_option maxHeartbeats 4000000
/-! PV: what the operations give, by values. -/
namespace PV
open PySem L2

/-- // by a divisor of up to two hundred bits -/
def CDivB (_ j : Int) : Prop := j ≠ 0 ∧ j.natAbs < 1606938044258990275541962092341162602522202993782792835301376
theorem op_fdivB {X : Cx} : OpR X (binaryOp .FloorDiv) (rI CDivB fun i j => .int (i.fdiv j)) := opI fun i j _ _ _ _ _ hc q => by
  have h2 : j.natAbs < 2 ^ 200 := hc.2
  exact PyProof.Rows.floordiv_int hc.1 q (.inl (PyProof.noPylong_of_log2 (Nat.lt_of_lt_of_le (PySem.Flt.log2_lt_of (by decide) h2) (by decide))))
/-- a list that was just made: nobody else holds it -/
def FrP (K : PySem.W.Frag) (O : List Addr) (H H' : Hp) (v : V) (z : D) : Prop := ∃ p vs ds, v = .ref p ∧ z = .list ds ∧ H p = none ∧ H' p = some (.lst vs) ∧ Rps K (hid (p :: O) H') vs ds
/-- a value of the datum z, the heap may have grown; f: a list is new -/
def Nw (f : Bool) (K : PySem.W.Frag) (O : List Addr) (H : Hp) (z : D) (Q : VK) : Prop := ∀ v H', Le H H' → Rp K (hid O H') v z → (f = true → isMut z = true → FrP K O H H' v z) → Q v H'
abbrev Dm (O : List Addr) (H : Hp) : Prop := ∀ p ∈ O, H p ≠ none
section
variable {f : Bool} {K : PySem.W.Frag} {O : List Addr} {H : Hp} {z : D} {Q : VK} {v : V} {d : D}
theorem Nw.same (n : Nw f K O H z Q) (r : Rp K (hid O H) v z) (h : (f && isMut z) = false := by rfl) : Q v H := n v H (Le.refl H) r fun h1 h2 => by rw [h1, h2] at h; cases h
theorem Nw.int {i : Int} (n : Nw f K O H (.int i) Q) : Q (.int i) H := n.same (.int i) (by cases f <;> rfl)
theorem Nw.bl {i : Bool} (n : Nw f K O H (.bool i) Q) : Q (.bl i) H := n.same (.bl i) (by cases f <;> rfl)
theorem Nw.str {i : Str} (n : Nw f K O H (.str i) Q) : Q (.str i) H := n.same (.str i) (by cases f <;> rfl)
theorem Nw.sameT {ds : List D} (n : Nw f K O H (.tuple ds) Q) (r : Rp K (hid O H) v (.tuple ds)) : Q v H := n.same r (by cases f <;> rfl)
theorem Nw.tup {vs : List V} {ds : List D} (n : Nw f K O H (.tuple ds) Q) (dm : Dm O H) (r : Rps K (hid O H) vs ds) {p : Addr} (hp : H p = none) : Q (.ref p) (upd H p (.tup vs)) :=
  n _ _ (Le.new hp) (.tup (.inl (.inl (hid_in (fun hm => dm p hm hp) upd_same))) (r.mono (hid_le_mono (Le.new hp)))) fun _ h => by cases h
/-- what was known ahead of a new object avoids it -/
theorem hid_cons_new {p : Addr} {o : HO} (hp : H p = none) : Le (hid O H) (hid (p :: O) (upd H p o)) := fun a u e => by
  have ha := hid_out e
  have e' := hid_le O H a u e
  have hne : a ≠ p := fun z => by rw [z, hp] at e'; cases e'
  exact hid_in (fun hm => (List.mem_cons.mp hm).elim hne ha) (by rw [upd_ne hne]; exact e')
theorem Nw.lst {vs : List V} {ds : List D} (n : Nw f K O H (.list ds) Q) (dm : Dm O H) (r : Rps K (hid O H) vs ds) {p : Addr} (hp : H p = none) : Q (.ref p) (upd H p (.lst vs)) :=
  n _ _ (Le.new hp) (.lst (hid_in (fun hm => dm p hm hp) upd_same) (r.mono (hid_le_mono (Le.new hp)))) fun _ _ => ⟨p, vs, ds, rfl, rfl, hp, upd_same, r.mono (hid_cons_new hp)⟩
theorem Br.int {i : Int} (h : Br K O H v (.int i)) : v = .int i := by
  rcases h with h | ⟨p, _, _, _, _, e, _⟩
  · cases h; rfl
  · cases e
theorem Br.bl {i : Bool} (h : Br K O H v (.bool i)) : v = .bl i := by
  rcases h with h | ⟨p, _, _, _, _, e, _⟩
  · cases h; rfl
  · cases e
theorem Br.str {i : Str} (h : Br K O H v (.str i)) : v = .str i := by
  rcases h with h | ⟨p, _, _, _, _, e, _⟩
  · cases h; rfl
  · cases e
theorem Br.non (h : Br K O H v .none) : v = .non := by
  rcases h with h | ⟨p, _, _, _, _, e, _⟩
  · cases h; rfl
  · cases e
theorem Br.lst {ds : List D} (h : Br K O H v (.list ds)) : ∃ a vs, v = .ref a ∧ Rps K (hid O H) vs ds ∧ H a = some (.lst vs) := by
  obtain ⟨a, vs, e, r, q⟩ := h.items (ds := ds) rfl
  rcases q with ⟨_, q⟩ | ⟨e2, _⟩
  · exact ⟨a, vs, e, r, q⟩
  · cases e2
theorem Br.tup {ds : List D} (h : Br K O H v (.tuple ds)) : ∃ a vs, v = .ref a ∧ Rps K (hid O H) vs ds ∧ SqT K H a vs ∧ Rp K (hid O H) v (.tuple ds) := by
  obtain ⟨a, vs, e, r, q⟩ := h.items (ds := ds) rfl
  rcases q with ⟨e2, _⟩ | ⟨_, q⟩
  · cases e2
  · refine ⟨a, vs, e, r, q, ?_⟩
    rcases h with h | ⟨p, _, _, _, _, e, _⟩
    · exact h
    · cases e
end

/-! ### shallow data -/
mutual
theorem plain_shal : ∀ (d : D) (n : Nat), shal n d = true → d.plain = true ∧ d.depth ≤ n
  | .none, n, _ => ⟨rfl, by simp [PyData.depth]⟩
  | .bool _, n, _ => ⟨rfl, by simp [PyData.depth]⟩
  | .int _, n, _ => ⟨rfl, by simp [PyData.depth]⟩
  | .str _, n, _ => ⟨rfl, by simp [PyData.depth]⟩
  | .list xs, 0, h => by simp [shal] at h
  | .list xs, n + 1, h => by
    have h' : xs.all (shal n) = true := by simpa [shal] using h
    obtain ⟨a, b⟩ := plain_shals xs n h'
    refine ⟨by simp only [PyData.plain]; exact a, by simp only [PyData.depth]; omega⟩
  | .tuple xs, 0, h => by simp [shal] at h
  | .tuple xs, n + 1, h => by
    have h' : xs.all (shal n) = true := by simpa [shal] using h
    obtain ⟨a, b⟩ := plain_shals xs n h'
    refine ⟨by simp only [PyData.plain]; exact a, by simp only [PyData.depth]; omega⟩
  | .dict _, 0, h => by simp [shal] at h
  | .dict _, n + 1, h => by simp [shal] at h
theorem plain_shals : ∀ (xs : List D) (n : Nat), xs.all (shal n) = true → PyData.plainAll xs = true ∧ PyData.depthAll xs ≤ n
  | [], _, _ => ⟨rfl, by simp [PyData.depthAll]⟩
  | x :: xs, n, h => by
    rw [List.all_cons, Bool.and_eq_true] at h
    obtain ⟨a, b⟩ := plain_shal x n h.1
    obtain ⟨c, e⟩ := plain_shals xs n h.2
    refine ⟨by simp only [PyData.plainAll]; rw [a, c]; rfl, by simp only [PyData.depthAll]; omega⟩
end

theorem tuple_mulS (l : Addr) (items : Array Value) (n : Nat) (dd : Option Addr) (sl : Array (Option Value)) (u : Tok) :
    PySem.Meets (Builtin.«tuple.__mul__» ⟨[.ref l, .int 1 u], []⟩) (fun _ R s => s.heap.get? l = some { cls := .type "tuple", dict := dd, data := .seq items n, slots := sl } ∧
      R (.ok (.ret (Value.ref l))) s) :=
  .of_wp fun prog w A R s h => by
    obtain ⟨hp, g, d, tk, os⟩ := s
    obtain ⟨hl, h⟩ := h
    have f1 := AutoSeq1.idx_int
    have c0 : (decide ((1 : Int) < -(2 ^ 63)) || decide ((1 : Int) ≥ 2 ^ 63)) = false := by decide
    have c1 : (items.isEmpty || (1 : Int) == 1) = true := by simp
    wp_walk using wpAny_loadPart' hl
    repeat (first
      | (refine wpAny_ite_false (decide_eq_false (by rw [c0]; exact Bool.false_ne_true)) ?_; wp_walk using wpAny_loadPart' hl)
      | (refine wpAny_ite_true (decide_eq_true (by rw [c1])) ?_; wp_walk using wpAny_loadPart' hl))
    exact ⟨_, rfl, h⟩
theorem op_repT1 {X : Cx} {pins : List (Addr × Obj)} {s : Shared} {σ : L2.St} {H : Hp} {l : Addr} {xs : List V} {t : Tok} {Q : VK} (I : Inv X pins σ H s) (hT : SqT X.K H l xs) (q : Q (.ref l) H) :
    wpAny (model X.prog X.w) X.A (binaryOp .Mult (.ref l) (.int 1 t)) (EP X pins σ Q) X.xe s := by
  obtain ⟨its, r, ⟨⟨cls, dd, data, sl⟩, ho, hc, n, hd⟩, hs⟩ := I.tuple hT
  simp only at hc hd
  subst hc hd
  exact wpAny_binaryOp_repeat_ref (T := "tuple") (U := "int") (by decide) ⟨_, ho, rfl⟩ (fun s' => PySem.typeIs_int s' 1 t) noFill_tuple_mul F.fills_int_mul F.slot_int_rmul repeat_tuple F.slot_int_index.lookup
    (call_meets F.slot_int_rmul (PySem.typeIs_int s 1 t) F.entry_int_rmul (F.args_int_rmul_2 _ _) (int_rmul_tuple 1 t l its.toArray n dd sl)
      ⟨ho, rfl, ⟨_, ho, rfl⟩, call_meets F.slot_tuple_mul ⟨_, ho, rfl⟩ F.entry_tuple_mul (F.args_tuple_mul_2 _ _) (tuple_mulS l its.toArray n dd sl t) ⟨ho, ⟨.ref l, H, I, rfl, q⟩⟩⟩)
section
variable {X : Cx}
/-- a two-place operation that gives the datum g a b -/
def rD2 (f : Bool) (K : PySem.W.Frag) (g : D → D → Option D) : R2 := fun x y H Q => ∃ O a b z, Dm O H ∧ Br K O H x a ∧ Br K O H y b ∧ g a b = some z ∧ Nw f K O H z Q
def binOp : Op2 → Operator
  | .add => .Add
  | .sub => .Sub
  | .mul => .Mult
  | .fdiv => .FloorDiv
  | .mod => .Mod
  | .pow => .Pow
theorem line_eq : (LINE : Nat) = sizeLine := by rw [sizeLine_eq]; rfl
theorem small_ok {i : Int} (h : small64 i = true) : -(2 ^ 64) < i ∧ i < 2 ^ 64 := by
  unfold small64 at h
  have h' := of_decide_eq_true h
  omega
theorem op_bin (o : Op2) : OpR X (binaryOp (binOp o)) (rD2 true X.K (dBin o)) := by
  intro pins s σ H x y v u Q I rx ry h
  obtain ⟨O, a, b, z, dm, ha, hb, hz, n⟩ := h
  cases o with
  | add =>
    cases a <;> cases b <;> try (simp [dBin] at hz; done)
    case int.int i j =>
      have e : PyData.int (i + j) = z := Option.some.inj hz
      subst e
      exact op_add pins s σ H x y v u Q I rx ry ⟨i, j, ha.int, hb.int, n.int⟩
    case str.str i j =>
      simp only [dBin] at hz
      split at hz
      · rename_i hl
        have e : PyData.str (i ++ j) = z := Option.some.inj hz
        subst e
        exact op_add_str pins s σ H x y v u Q I rx ry ⟨i, j, ha.str, hb.str, by rw [← line_eq]; exact hl, n.str⟩
      · cases hz
    case list.list i j =>
      simp only [dBin] at hz
      split at hz
      · rename_i hl
        have e : PyData.list (i ++ j) = z := Option.some.inj hz
        subst e
        obtain ⟨p, vs, e1, r1, h1⟩ := ha.lst
        obtain ⟨q, ws, e2, r2, h2⟩ := hb.lst
        exact op_cat pins s σ H x y v u Q I rx ry ⟨p, q, vs, ws, e1, e2, h1, h2, by rw [r1.length, r2.length, ← line_eq]; exact hl, fun l hl => n.lst dm (r1.append r2) hl⟩
      · cases hz
    case tuple.tuple i j =>
      simp only [dBin] at hz
      split at hz
      · rename_i hl
        have e : PyData.tuple (i ++ j) = z := Option.some.inj hz
        subst e
        obtain ⟨p, vs, e1, r1, h1, f1⟩ := ha.tup
        obtain ⟨q, ws, e2, r2, h2, f2⟩ := hb.tup
        refine op_catA pins s σ H x y v u Q I rx ry ⟨p, q, vs, ws, e1, e2, h1, h2, by rw [r1.length, r2.length, ← line_eq]; exact hl, fun e => ?_, fun _ e => ?_, fun _ _ l hl => n.tup dm (r1.append r2) hl⟩
        · have e' := r1.nil_iff.mp e
          subst e'
          rw [e2] at f2
          exact n.sameT f2
        · have e' := r2.nil_iff.mp e
          subst e'
          rw [e1] at f1
          rw [List.append_nil] at n
          exact n.sameT f1
      · cases hz
  | sub =>
    cases a <;> cases b <;> try (simp [dBin] at hz; done)
    case int.int i j =>
      have e : PyData.int (i - j) = z := Option.some.inj hz
      subst e
      exact op_sub pins s σ H x y v u Q I rx ry ⟨i, j, ha.int, hb.int, n.int⟩
  | mul =>
    cases a <;> cases b <;> try (simp [dBin] at hz; done)
    case int.int i j =>
      simp only [dBin] at hz
      split at hz
      · rename_i hl
        have e : PyData.int (i * j) = z := Option.some.inj hz
        subst e
        refine op_mul pins s σ H x y v u Q I rx ry ⟨i, j, ha.int, hb.int, ?_, n.int⟩
        rw [Bool.or_eq_true] at hl
        rcases hl with hl | hl
        · exact .inl (small_ok hl)
        · exact .inr (small_ok hl)
      · cases hz
    case list.int i k =>
      simp only [dBin] at hz
      split at hz
      · rename_i hl
        have e : PyData.list (List.replicate k.toNat i).flatten = z := Option.some.inj hz
        subst e
        obtain ⟨p, vs, e1, r1, h1⟩ := ha.lst
        refine op_rep pins s σ H x y v u Q I rx ry ⟨p, k, vs, e1, hb.int, h1, by omega, by omega, by rw [r1.length, ← line_eq]; exact hl.1, fun l hl => n.lst dm (r1.flat _) hl⟩
      · cases hz
    case tuple.int i k =>
      obtain ⟨p, vs, e1, r1, h1, f1⟩ := ha.tup
      simp only [dBin] at hz
      split at hz
      · rename_i hk
        subst hk
        have e : PyData.tuple i = z := Option.some.inj hz
        subst e
        have e2 := hb.int
        subst e1 e2
        obtain ⟨t, rfl⟩ := ry
        cases rx
        exact op_repT1 I h1 (n.sameT f1)
      · split at hz
        · rename_i hk hl
          have e : PyData.tuple (List.replicate k.toNat i).flatten = z := Option.some.inj hz
          subst e
          exact op_repT pins s σ H x y v u Q I rx ry ⟨p, k, vs, e1, hb.int, h1, fun e => hl.1 (r1.nil_iff.mp e), hl.2.1, hl.2.2.1, by rw [r1.length]; exact hl.2.2.2, fun l hl => n.tup dm (r1.flat _) hl⟩
        · cases hz
  | fdiv =>
    cases a <;> cases b <;> try (simp [dBin] at hz; done)
    case int.int i j =>
      simp only [dBin] at hz
      split at hz
      · rename_i hl
        have e : PyData.int (i.fdiv j) = z := Option.some.inj hz
        subst e
        exact op_fdivB pins s σ H x y v u Q I rx ry ⟨i, j, ha.int, hb.int, hl, n.int⟩
      · cases hz
  | mod =>
    cases a <;> cases b <;> try (simp [dBin] at hz; done)
    case int.int i j =>
      simp only [dBin] at hz
      split at hz
      · rename_i hl
        have e : PyData.int (i.fmod j) = z := Option.some.inj hz
        subst e
        exact op_modN pins s σ H x y v u Q I rx ry ⟨i, j, ha.int, hb.int, hl, n.int⟩
      · cases hz
  | pow =>
    cases a <;> cases b <;> try (simp [dBin] at hz; done)
    case int.int i j =>
      simp only [dBin] at hz
      split at hz
      · rename_i hl
        have e : PyData.int (i ^ j.toNat) = z := Option.some.inj hz
        subst e
        exact op_pow pins s σ H x y v u Q I rx ry ⟨i, j, ha.int, hb.int, hl, n.int⟩
      · cases hz

/-! ### comparisons -/
def cmOp : Cm → CmpOp
  | .eq => .Eq
  | .ne => .NotEq
  | .lt => .Lt
  | .le => .LtE
  | .gt => .Gt
  | .ge => .GtE
  | .is_ => .Is
  | .isnot => .IsNot
  | .in_ => .In
  | .notin => .NotIn
/-- a comparison of two data: a truth -/
def rC2 (K : PySem.W.Frag) (g : D → D → Option Bool) : R2 := fun x y H Q => ∃ O a b z, Br K O H x a ∧ Br K O H y b ∧ g a b = some z ∧ Q (.bl z) H
theorem room_le {A : Around} {k n : Nat} (hr : Room k A) (h : n ≤ 100) : A.units + n < cLine := by have := hr.un; omega
theorem Br.reads {pins : List (Addr × Obj)} {σ : L2.St} {H : Hp} {s : Shared} {O : List Addr} {x : V} {a : D} {v : Value} (I : Inv X pins σ H s) (h : Br X.K O H x a) (r : RelV x v) : ∃ as, Reads s.heap v a as := h.rp.reads I r
theorem isN_eq {K : PySem.W.Frag} {O : List Addr} {H : Hp} {x : V} {a : D} (h : Br K O H x a) : decide (x = .non) = isN a := by
  cases a with
  | none => rw [h.non]; rfl
  | bool b => rw [h.bl]; rfl
  | int i => rw [h.int]; rfl
  | str i => rw [h.str]; rfl
  | list ds => obtain ⟨p, vs, e, _⟩ := h.lst; rw [e]; rfl
  | tuple ds => obtain ⟨p, vs, e, _⟩ := h.tup; rw [e]; rfl
  | dict ds =>
    rcases h with h | ⟨p, _, _, _, _, e, _⟩
    · cases h
    · cases e
theorem ord_ok {a b : D} (h : cmpOk a b = true) : a.plain = true ∧ a.depth ≤ 20 ∧ W.alike a b = true ∧ a ≠ .none := by
  unfold cmpOk sh at h
  rw [Bool.and_eq_true, Bool.and_eq_true] at h
  obtain ⟨h1, h2, h3⟩ := h
  obtain ⟨p1, p2⟩ := plain_shal a 20 h1
  refine ⟨p1, p2, h2, ?_⟩
  rintro rfl
  simp [isN] at h3
/-- is, is not with a truth: another thing is none -/
theorem is_bool {pins : List (Addr × Obj)} {σ : L2.St} {H : Hp} {s : Shared} {O : List Addr} {x : V} {a : D} {v : Value} {c : Bool} (I : Inv X pins σ H s) (h : Br X.K O H x a) (r : RelV x v) (e : isB c a = false) : v ≠ .bool c := by
  rintro rfl
  have q := r.abs
  have q' : some (V.bl c) = some x := q
  cases a with
  | bool b =>
    rw [h.bl] at q'
    cases q'
    simp [isB] at e
  | none => rw [h.non] at q'; cases q'
  | int i => rw [h.int] at q'; cases q'
  | str i => rw [h.str] at q'; cases q'
  | list ds => obtain ⟨p, vs, e, _⟩ := h.lst; rw [e] at q'; cases q'
  | tuple ds => obtain ⟨p, vs, e, _⟩ := h.tup; rw [e] at q'; cases q'
  | dict ds =>
    rcases h with h | ⟨p, _, _, _, _, e, _⟩
    · cases h
    · cases e
theorem is_plain {K : PySem.W.Frag} {O : List Addr} {H : Hp} {x : V} {a : D} {v : Value} {c : Bool} (h : Br K O H x a) (r : RelV x v) : plainIs v (.bool c) = true := by
  cases a with
  | bool b => rw [h.bl] at r; cases (show v = _ from r); rfl
  | none => rw [h.non] at r; cases (show v = _ from r); rfl
  | int i => rw [h.int] at r; obtain ⟨t, rfl⟩ := r; rfl
  | str i => rw [h.str] at r; obtain ⟨t, rfl⟩ := r; rfl
  | list ds => obtain ⟨p, vs, e, _⟩ := h.lst; rw [e] at r; cases (show v = _ from r); rfl
  | tuple ds => obtain ⟨p, vs, e, _⟩ := h.tup; rw [e] at r; cases (show v = _ from r); rfl
  | dict ds =>
    rcases h with h | ⟨p, _, _, _, _, e, _⟩
    · cases h
    · cases e
theorem isB_true {a : D} {c : Bool} (h : isB c a = true) : a = .bool c := by
  cases a <;> simp [isB] at h
  rw [h]
theorem op_cmp {k : Nat} (hr : Room k X.A) (c : Cm) : OpR X (compareOp (cmOp c)) (rC2 X.K (dCmp c)) := by
  intro pins s σ H x y v u Q I rx ry h
  obtain ⟨O, a, b, z, ha, hb, hz, n⟩ := h
  obtain ⟨as, ra⟩ := ha.reads I rx
  obtain ⟨bs, rb⟩ := hb.reads I ry
  have fin : ∀ {w : Bool}, w = z → EP X pins σ Q (.bool w) s := fun e => by subst e; exact ⟨.bl _, H, I, rfl, n⟩
  cases c with
  | eq =>
    simp only [dCmp] at hz
    split at hz
    · rename_i hl
      rw [Bool.and_eq_true] at hl
      obtain ⟨p1, p2⟩ := plain_shal a 20 hl.1
      obtain ⟨p3, p4⟩ := plain_shal b 20 hl.2
      exact PySem.SeqAt.eq_plain ra rb p1 p3 (room_le hr (by omega)) (fin (Option.some.inj hz))
    · cases hz
  | ne =>
    simp only [dCmp] at hz
    split at hz
    · rename_i hl
      rw [Bool.and_eq_true] at hl
      obtain ⟨p1, p2⟩ := plain_shal a 20 hl.1
      obtain ⟨p3, p4⟩ := plain_shal b 20 hl.2
      exact PySem.SeqAt.ne_plain ra rb p1 p3 (room_le hr (by omega)) (fin (Option.some.inj hz))
    · cases hz
  | lt =>
    simp only [dCmp, dlt] at hz
    split at hz
    · rename_i hl
      obtain ⟨p1, p2, p3, p4⟩ := ord_ok hl
      exact PySem.W.lt_data ra rb p3 p4 (room_le hr (by omega)) (fin (Option.some.inj hz))
    · cases hz
  | gt =>
    simp only [dCmp] at hz
    split at hz
    · rename_i hl
      obtain ⟨p1, p2, p3, p4⟩ := ord_ok hl
      exact PySem.W.gt_data ra rb p3 p4 (room_le hr (by omega)) (fin (Option.some.inj hz))
    · cases hz
  | le =>
    simp only [dCmp] at hz
    split at hz
    · rename_i hl
      obtain ⟨p1, p2, p3, p4⟩ := ord_ok hl
      exact PySem.W.le_data ra rb p3 p4 (room_le hr (by omega)) (fin (Option.some.inj hz))
    · cases hz
  | ge =>
    simp only [dCmp] at hz
    split at hz
    · rename_i hl
      obtain ⟨p1, p2, p3, p4⟩ := ord_ok hl
      exact PySem.W.ge_data ra rb p3 p4 (room_le hr (by omega)) (fin (Option.some.inj hz))
    · cases hz
  | is_ =>
    cases b <;> try (simp [dCmp] at hz; done)
    case none =>
      refine op_isN pins s σ H x y v u Q I rx ry ⟨hb.non, ?_⟩
      rw [isN_eq ha]
      have e : isN a = z := Option.some.inj hz
      rw [e]
      exact n
    case bool c =>
      have e : isB c a = z := Option.some.inj hz
      rw [hb.bl] at ry
      cases (show u = Value.bool c from ry)
      cases hc : isB c a with
      | true =>
        have e2 := isB_true hc
        subst e2
        rw [ha.bl] at rx
        cases (show v = Value.bool c from rx)
        exact PySem.wpAny_is_self rfl (fin (by rw [← e, hc]))
      | false => exact PySem.wpAny_is_other (is_plain ha rx) (is_bool I ha rx hc) (fin (by rw [← e, hc]))
  | isnot =>
    cases b <;> try (simp [dCmp] at hz; done)
    case none =>
      refine op_notN pins s σ H x y v u Q I rx ry ⟨hb.non, ?_⟩
      rw [isN_eq ha]
      have e : (!isN a) = z := Option.some.inj hz
      rw [e]
      exact n
    case bool c =>
      have e : (!isB c a) = z := Option.some.inj hz
      rw [hb.bl] at ry
      cases (show u = Value.bool c from ry)
      cases hc : isB c a with
      | true =>
        have e2 := isB_true hc
        subst e2
        rw [ha.bl] at rx
        cases (show v = Value.bool c from rx)
        exact PySem.wpAny_isNot_self rfl (fin (by rw [← e, hc]; rfl))
      | false => exact PySem.wpAny_isNot_other (is_plain ha rx) (is_bool I ha rx hc) (fin (by rw [← e, hc]; rfl))
  | in_ =>
    cases b <;> try (simp [dCmp, dIn] at hz; done)
    case list xs =>
      simp only [dCmp, dIn] at hz
      split at hz
      · rename_i hl
        rw [Bool.and_eq_true] at hl
        obtain ⟨p1, p2⟩ := plain_shal a 20 hl.1
        obtain ⟨p3, p4⟩ := plain_shals xs 20 hl.2
        exact PySem.SeqAt.in_list_data rb ra p3 p1 (by have := room_le hr (n := 21) (by omega); omega) (fin (Option.some.inj hz))
      · cases hz
    case tuple xs =>
      simp only [dCmp, dIn] at hz
      split at hz
      · rename_i hl
        rw [Bool.and_eq_true] at hl
        obtain ⟨p1, p2⟩ := plain_shal a 20 hl.1
        obtain ⟨p3, p4⟩ := plain_shals xs 20 hl.2
        exact PySem.SeqAt.in_tuple_data rb ra p3 p1 (by have := room_le hr (n := 21) (by omega); omega) (fin (Option.some.inj hz))
      · cases hz
    case dict xs =>
      rcases hb with h | ⟨p, _, _, _, _, e, _⟩
      · cases h
      · cases e
  | notin =>
    cases b <;> try (simp [dCmp, dIn] at hz; done)
    case list xs =>
      simp only [dCmp, dIn] at hz
      split at hz
      · rename_i hl
        rw [Bool.and_eq_true] at hl
        obtain ⟨p1, p2⟩ := plain_shal a 20 hl.1
        obtain ⟨p3, p4⟩ := plain_shals xs 20 hl.2
        exact PySem.SeqAt.notIn_list_data rb ra p3 p1 (by have := room_le hr (n := 21) (by omega); omega) (fin (Option.some.inj hz))
      · cases hz
    case tuple xs =>
      simp only [dCmp, dIn] at hz
      split at hz
      · rename_i hl
        rw [Bool.and_eq_true] at hl
        obtain ⟨p1, p2⟩ := plain_shal a 20 hl.1
        obtain ⟨p3, p4⟩ := plain_shals xs 20 hl.2
        exact PySem.SeqAt.notIn_tuple_data rb ra p3 p1 (by have := room_le hr (n := 21) (by omega); omega) (fin (Option.some.inj hz))
      · cases hz
    case dict xs =>
      rcases hb with h | ⟨p, _, _, _, _, e, _⟩
      · cases h
      · cases e
end
end PV

set_option maxHeartbeats 4000000
/-! PV: sorted(xs) of a tuple. -/
namespace PV
open PySem PySem.Calls PySem.W L2 PyProof.Rows
section
variable {prog : Program} {w : World} {A : Around} {E : Value → Shared → Prop} {s : Shared} {κ : PyProof.Rows.KeyKind}
theorem collect_tup {l : Addr} {vs : List Value} {Q : List Value → Shared → Prop} (hl : IsTup s.heap l vs.toArray) (hsz : vs.length ≤ sizeLine)
    (h : Q vs { s with heap := (s.heap.push (seqObj "list" #[] 0)).update s.heap.objs.size (Obj.mapSeq (· ++ vs.toArray)) }) :
    wpAny (model prog w) A (collect (.ref l)) Q E s := by
  obtain ⟨o, ho, hc, n, hd⟩ := id hl
  unfold collect
  refine wpAny_bind (wpAny_runValue (codeAny_builtin entry_proto_collect' ?_))
  show wpAny _ _ (do again (.builtin "list.__iadd__" ⟨[← newList [], .ref l], []⟩)) _ _ s
  refine wpAny_bind (wpAny_newList (wpAny_pure ⟨Code.quiet_builtin _ (by decide +kernel), codeAny_builtin entry_list_iadd' ?_⟩))
  show wpAny _ _ (Builtin.List.listExtendWith (.ref s.heap.objs.size) (.ref l) (.ref s.heap.objs.size)) _ _ { s with heap := s.heap.push (seqObj "list" #[] 0) }
  unfold Builtin.List.listExtendWith
  have ho' : (s.heap.push (seqObj "list" #[] 0)).get? l = some o := Heap.get?_push_of_some _ ho
  refine wpAny_bind (wpAny_typeOf (T := "tuple") ⟨o, ho', hc⟩ ?_)
  have ht : (Value.type "tuple" == Value.type "tuple") = true := by rfl
  rw [if_pos (by rw [ht]; simp)]
  refine wpAny_bind (listItems_at ho' hd ?_)
  refine wpAny_bind (listItems_at (xs := #[]) (n := 0) (Heap.get?_push_size _ rfl) rfl ?_)
  rw [if_neg (by simp)]
  refine wpAny_bind (listUpdate_at (xs := #[]) (n := 0) (Heap.get?_push_size _ rfl) rfl ?_ (Nat.zero_le _) (by show (#[] ++ vs.toArray).size ≤ sizeLine + 1; simp only [Array.size_append, List.size_toArray, List.length_nil]; omega))
  refine wpAny_pure ?_
  show wpAny (model prog w) A (do
      let o ← load s.heap.objs.size
      match o.data with
      | .seq xs _ => pure xs.toList
      | _ => unsupported "internal:collect") Q E { s with heap := (s.heap.push (seqObj "list" #[] 0)).update s.heap.objs.size (Obj.mapSeq (· ++ vs.toArray)) }
  refine wpAny_bind (wpAny_load (get?_update_seq (Heap.get?_push_size _ rfl) _) ?_)
  show wpAny _ _ (pure ((#[] : Array Value) ++ vs.toArray).toList) Q E _
  rw [show ((#[] : Array Value) ++ vs.toArray).toList = vs by simp]
  exact wpAny_pure h
theorem sorted_vals_tup {l : Addr} {vs : List Value} {Q : Value → Shared → Prop} (hl : IsTup s.heap l vs.toArray) (S : SortsAt prog w A.in1.in1 { s with heap := sortingHeap (copyHeap s.heap vs) (s.heap.objs.size + 1) vs } κ vs) (hL : vs.length ≤ sizeLine)
    (h : Q (.ref (s.heap.objs.size + 1)) { s with heap := sortedAll s.heap vs (sortVals κ false vs vs).toArray }) : wpAny (model prog w) A (call (.builtin "sorted") [.ref l]) Q E s := by
  refine call_function_entry_kw kind_sorted plain_sorted entry_sorted (args_sorted1 _) ?_
  unfold Builtin.«sorted»
  refine wpAny_bind (m := checkCount "sorted" 1 1 _) (wpAny_pure ?_)
  refine wpAny_bind (collect_tup hl hL ?_)
  refine wpAny_bind (wpAny_newList ?_ hL)
  have hsz : ((s.heap.push (seqObj "list" #[] 0)).update s.heap.objs.size (Obj.mapSeq (· ++ vs.toArray))).objs.size = s.heap.objs.size + 1 := by
    rw [Heap.size_update, size_push']
  show wpAny _ _ _ _ _ { s with heap := copyHeap s.heap vs }
  rw [hsz]
  refine wpAny_bind (wpAny_holding (wpAny_call_entry_kw slot_list_sort ⟨_, copyHeap_at s.heap vs, rfl⟩ entry_list_sort ?body (args_list_sort _)))
  case body =>
    show wpAny (model prog w) A.in1.in1 (Builtin.«list.sort» ⟨[.ref (s.heap.objs.size + 1)], []⟩) _ _ _
    refine wpAny_mono (list_sort_vals (P := fun f s' => f = .done (.ret .none) ∧ Q (.ref (s.heap.objs.size + 1)) s') (s := { s with heap := copyHeap s.heap vs }) (copyHeap_at s.heap vs) S hL ⟨rfl, h⟩) (fun f s' hf => ?_) fun _ _ e => e
    obtain ⟨rfl, hq⟩ := hf
    exact ⟨_, rfl, wpAny_pure ⟨_, rfl, hq⟩⟩
theorem bound_map' {β : Type} {bs : List β} {enc : β → PyData} (hu : ∀ b, b ∈ bs → A.units + (enc b).depth < cLine) : ∀ d, d ∈ bs.map enc → A.units + d.depth < cLine := by
  intro d hd
  obtain ⟨b, hb, rfl⟩ := List.mem_map.mp hd
  exact hu b hb
theorem sorted_data_tup {l : Addr} {vs : List Value} {bs : List PyData} {R : Value → PyData → Prop} {Q : Value → Shared → Prop} (hl : IsTup s.heap l vs.toArray) (e : EachIs R vs bs) (er : EachIs (fun v b => ∃ as, Reads s.heap v (id b) as) vs bs) (hal : AllAlike (bs.map id)) (hk : PySem.W.Sortable (bs.map id)) (hL : bs.length ≤ sizeLine)
    (hu : ∀ b, b ∈ bs → A.units + 2 + (id b).depth < cLine) (h : ∀ out, out.length = bs.length → EachIs R out (bs.mergeSort (dataLe false id)) → Q (.ref (s.heap.objs.size + 1)) { s with heap := sortedAll s.heap vs (List.toArray out) }) :
    wpAny (model prog w) A (call (.builtin "sorted") [.ref l]) Q E s := by
  have er' : EachIs (fun v b => ∃ as, Reads (sortingHeap (copyHeap s.heap vs) (s.heap.objs.size + 1) vs) v (id b) as) vs bs := er.mono fun _ _ ⟨as, r⟩ => ⟨as, PyProof.Rows.Reads.keeps (fun _ _ => sorting_copy_old) r⟩
  exact sorted_vals_tup hl (SortsAt.data (s := { s with heap := sortingHeap (copyHeap s.heap vs) (s.heap.objs.size + 1) vs }) (each_map (R := fun v d => ∃ as, Reads (sortingHeap (copyHeap s.heap vs) (s.heap.objs.size + 1) vs) v d as) id er') hal hk (bound_map' hu)) (by rw [e.length]; exact hL)
    (h _ (by rw [sortVals_length false rfl]; exact e.length) (sortVals_data false e er' hal))
end
end PV

set_option maxHeartbeats 4000000
/-! PV: subscripts, slices, built-in functions. -/
namespace PV
open PySem L2 PyProof.Rows

section
variable {K : PySem.W.Frag} {O : List Addr} {H : Hp}
theorem Rps.at_ {vs : List V} {ds : List D} {i : Int} {d : D} (h : Rps K H vs ds) (e : atI ds i = some d) : ∃ v, atI vs i = some v ∧ Rp K H v d := by
  unfold atI at e ⊢
  rw [h.length]
  cases q : ixN ds.length i with
  | none => rw [q] at e; cases e
  | some j =>
    rw [q] at e
    exact h.getD e
end
section
variable {X : Cx}
theorem op_ix : IxR X (rD2 false X.K dIx) := by
  intro value slice pins s σ H x y v u Q I rx ry h hs
  obtain ⟨O, a, b, z, dm, ha, hb, hz, n⟩ := h
  cases a <;> cases b <;> try (simp [dIx] at hz; done)
  case list.int xs i =>
    obtain ⟨p, vs, e1, r1, h1⟩ := ha.lst
    obtain ⟨w, e2, r2⟩ := r1.at_ (show atI xs i = some z from hz)
    exact ix_list value slice pins s σ H x y v u Q I rx ry ⟨p, vs, i, w, e1, hb.int, .inl (.inl h1), e2, n.same r2⟩ hs
  case tuple.int xs i =>
    obtain ⟨p, vs, e1, r1, h1, _⟩ := ha.tup
    obtain ⟨w, e2, r2⟩ := r1.at_ (show atI xs i = some z from hz)
    exact ix_tup value slice pins s σ H x y v u Q I rx ry ⟨p, vs, i, w, e1, hb.int, h1, e2, n.same r2⟩ hs
  case str.int xs i =>
    simp only [dIx] at hz
    split at hz
    · rename_i hl
      cases q : atI xs.cps.toList i with
      | none => rw [q] at hz; cases hz
      | some c =>
        rw [q] at hz
        have e : PyData.str ⟨#[c]⟩ = z := Option.some.inj hz
        subst e
        exact ix_str value slice pins s σ H x y v u Q I rx ry ⟨xs, i, c, ha.str, hb.int, by rw [← line_eq]; exact hl, q, n.str⟩ hs
    · cases hz
  all_goals
    rcases ha with h | ⟨p, _, _, _, _, e, _⟩
    · cases h
    · cases e
/-- a slice -/
def rSlD (K : PySem.W.Frag) : V → Option Int → Option Int → Hp → VK → Prop := fun x lo hi H Q => ∃ O a z, Dm O H ∧ Br K O H x a ∧ dSl a lo hi = some z ∧ Nw true K O H z Q
theorem cut_whole {α : Type} {xs : List α} {lo hi : Option Int} (h : HT.sIx xs.length 0 lo = 0 ∧ HT.sIx xs.length xs.length hi = xs.length) : cut xs lo hi = xs := by
  unfold cut
  rw [h.1, h.2]
  simp
theorem op_sl : SlR X (rSlD X.K) := by
  intro pins s σ H x v vl vu lo hi sl Q I rx hs pl pu h
  obtain ⟨O, a, z, dm, ha, hz, n⟩ := h
  cases a <;> try (simp [dSl] at hz; done)
  case list xs =>
    have e : PyData.list (cut xs lo hi) = z := Option.some.inj hz
    subst e
    obtain ⟨p, vs, e1, r1, h1⟩ := ha.lst
    exact sl_list pins s σ H x v vl vu lo hi sl Q I rx hs pl pu ⟨p, vs, e1, .inl (.inl h1), fun l hl => n.lst dm (r1.cut lo hi) hl⟩
  case tuple xs =>
    have e : PyData.tuple (cut xs lo hi) = z := Option.some.inj hz
    subst e
    obtain ⟨p, vs, e1, r1, h1, f1⟩ := ha.tup
    refine sl_tupA pins s σ H x v vl vu lo hi sl Q I rx hs pl pu ⟨p, vs, e1, h1, fun hw => ?_, fun _ l hl => n.tup dm (r1.cut lo hi) hl⟩
    rw [r1.length] at hw
    rw [cut_whole hw] at n
    rw [e1] at f1
    exact n.sameT f1

/-! ### built-in functions -/
def biF : Bi → Bool
  | .list => true
  | .sorted => true
  | .dict => true
  | .sset => true
  | _ => false
def rD1 (K : PySem.W.Frag) (b : Bi) : List V → Hp → VK → Prop := fun xs H Q => ∃ O x a z, xs = [x] ∧ Dm O H ∧ Br K O H x a ∧ dBi b a = some z ∧ Nw (biF b) K O H z Q
def biV : Bi → Value
  | .len => .builtin "len"
  | .abs => .builtin "abs"
  | .sum => .builtin "sum"
  | .any => .builtin "any"
  | .all => .builtin "all"
  | .sorted => .builtin "sorted"
  | .min => .builtin "min"
  | .max => .builtin "max"
  | .tuple => .type "tuple"
  | .list => .type "list"
  | .int => .type "int"
  | .str => .type "str"
  | .dict => .type "dict"
  | .sset => .builtin "sorted"
  | .lset => .builtin "len"
/-- the ones that are served -/
def biOk : Bi → Bool
  | .str => false
  | .dict => false
  | .sset => false
  | .lset => false
  | _ => true
theorem bi_len : CallR X (.builtin "len") (rD1 X.K .len) := by
  intro pins s σ H xs us Q I r h
  obtain ⟨O, x, a, z, rfl, dm, ha, hz, n⟩ := h
  cases a <;> try (simp [dBi] at hz; done)
  case list ds =>
    have e : PyData.int ds.length = z := Option.some.inj hz
    subst e
    obtain ⟨p, vs, e1, r1, h1⟩ := ha.lst
    refine call_len_seq pins s σ H _ us Q I r ⟨p, vs, by rw [e1], .inl (.inl (.inl h1)), ?_⟩
    rw [r1.length]
    exact n.int
  case tuple ds =>
    have e : PyData.int ds.length = z := Option.some.inj hz
    subst e
    obtain ⟨p, vs, e1, r1, h1, _⟩ := ha.tup
    refine call_len_seq pins s σ H _ us Q I r ⟨p, vs, by rw [e1], .inr h1, ?_⟩
    rw [r1.length]
    exact n.int
  case str t =>
    simp only [dBi] at hz
    split at hz
    · rename_i hl
      have e : PyData.int t.length = z := Option.some.inj hz
      subst e
      exact call_len_str pins s σ H _ us Q I r ⟨t, by rw [ha.str], by rw [← line_eq]; exact hl, n.int⟩
    · cases hz
  case dict =>
    rcases ha with h | ⟨p, _, _, _, _, e, _⟩
    · cases h
    · cases e
theorem bi_abs : CallR X (.builtin "abs") (rD1 X.K .abs) := by
  intro pins s σ H xs us Q I r h
  obtain ⟨O, x, a, z, rfl, dm, ha, hz, n⟩ := h
  cases a <;> try (simp [dBi] at hz; done)
  case int i =>
    have e : PyData.int (if i < 0 then -i else i) = z := Option.some.inj hz
    subst e
    exact call_abs pins s σ H _ us Q I r ⟨i, by rw [ha.int], n.int⟩
theorem items_some {d : D} {ds : List D} (e : items d = some ds) : d = .list ds ∨ d = .tuple ds := by
  cases d <;> simp [items] at e
  · subst e; exact .inl rfl
  · subst e; exact .inr rfl
theorem sum_tup {pins : List (Addr × Obj)} {s : Shared} {σ : L2.St} {H : Hp} {a : Addr} {ns : List Int} {Q : VK} (hc : X.calm = true) (I : Inv X pins σ H s) (hT : SqT X.K H a (ns.map V.int)) (q : Q (.int ns.sum) H) :
    wpAny (model X.prog X.w) X.A (call (.builtin "sum") [.ref a]) (EP X pins σ Q) X.xe s := by
  obtain ⟨its, rv, pl, hz⟩ := I.tuple hT
  have hi : PyProof.Rows.IntsAre its ns := rv.ints
  obtain ⟨xs, e⟩ := hi.allInts.items
  have hn : PySem.numsOf (PySem.intItems xs).toList = ns := by rw [← e]; exact hi.numsOf
  rw [nums_intItems] at hn
  rw [e] at pl
  refine PySem.W.ktm_sumG (I.ok.hd hc) pl fun h' tk t' hk => ?_
  refine ⟨.int ns.sum, H, I.kept hk, ⟨t', ?_⟩, q⟩
  rw [preSum_eq, List.take_of_length_le (by simp), hn]
theorem bi_sum (hc : X.calm = true) : CallR X (.builtin "sum") (rD1 X.K .sum) := by
  intro pins s σ H xs us Q I r h
  obtain ⟨O, x, a, z, rfl, dm, ha, hz, n⟩ := h
  simp only [dBi] at hz
  cases hi : items a with
  | none => rw [hi] at hz; cases hz
  | some ds =>
    rw [hi] at hz
    cases hn : ints? ds with
    | none => simp [hn] at hz
    | some ns =>
      have e : PyData.int ns.sum = z := by simpa [hn] using hz
      subst e
      obtain ⟨p, vs, e1, r1, q⟩ := ha.items hi
      have e2 := r1.ints hn
      subst e1 e2
      rcases q with ⟨_, q⟩ | ⟨_, q⟩
      · exact cr_sum hc pins s σ H _ us Q I r ⟨p, ns, rfl, .inl (.inl q), n.int⟩
      · rw [Vals.ref1 r]
        exact sum_tup hc I q n.int
theorem bi_any (hc : X.calm = true) : CallR X (.builtin "any") (rD1 X.K .any) := by
  intro pins s σ H xs us Q I r h
  obtain ⟨O, x, a, z, rfl, dm, ha, hz, n⟩ := h
  cases a <;> try (simp [dBi] at hz; done)
  case list ds =>
    simp only [dBi] at hz
    cases hn : bools? ds with
    | none => rw [hn] at hz; cases hz
    | some ns =>
      rw [hn] at hz
      have e : PyData.bool (ns.any id) = z := Option.some.inj hz
      subst e
      obtain ⟨p, vs, e1, r1, q⟩ := ha.lst
      have e2 := r1.bools hn
      subst e1 e2
      exact cr_any hc pins s σ H _ us Q I r ⟨p, ns, rfl, .inl (.inl q), n.bl⟩
theorem bi_all (hc : X.calm = true) : CallR X (.builtin "all") (rD1 X.K .all) := by
  intro pins s σ H xs us Q I r h
  obtain ⟨O, x, a, z, rfl, dm, ha, hz, n⟩ := h
  cases a <;> try (simp [dBi] at hz; done)
  case list ds =>
    simp only [dBi] at hz
    cases hn : bools? ds with
    | none => rw [hn] at hz; cases hz
    | some ns =>
      rw [hn] at hz
      have e : PyData.bool (ns.all id) = z := Option.some.inj hz
      subst e
      obtain ⟨p, vs, e1, r1, q⟩ := ha.lst
      have e2 := r1.bools hn
      subst e1 e2
      exact cr_all hc pins s σ H _ us Q I r ⟨p, ns, rfl, .inl (.inl q), n.bl⟩
theorem bi_tuple : CallR X (.type "tuple") (rD1 X.K .tuple) := by
  intro pins s σ H xs us Q I r h
  obtain ⟨O, x, a, z, rfl, dm, ha, hz, n⟩ := h
  simp only [dBi] at hz
  cases hi : items a with
  | none => rw [hi] at hz; cases hz
  | some ds =>
    rw [hi] at hz
    have e : PyData.tuple ds = z := Option.some.inj hz
    subst e
    obtain ⟨p, vs, e1, r1, q⟩ := ha.items hi
    subst e1
    rcases q with ⟨_, q⟩ | ⟨e, q⟩
    · exact call_tuple_of pins s σ H _ us Q I r ⟨p, vs, rfl, .inl ⟨.inl (.inl q), fun l hl => n.tup dm r1 hl⟩⟩
    · subst e
      exact call_tuple_of pins s σ H _ us Q I r ⟨p, vs, rfl, .inr ⟨q, n.sameT ha.tup.choose_spec.choose_spec.2.2.2⟩⟩
theorem bi_list : CallR X (.type "list") (rD1 X.K .list) := by
  intro pins s σ H xs us Q I r h
  obtain ⟨O, x, a, z, rfl, dm, ha, hz, n⟩ := h
  have nd : ∀ kvs, a ≠ .dict kvs := by
    rintro kvs rfl
    rcases ha with h | ⟨p, _, _, _, _, e, _⟩
    · cases h
    · cases e
  have hz' : (items a).map PyData.list = some z := by
    cases a <;> first | exact hz | exact absurd rfl (nd _)
  cases hi : items a with
  | none => rw [hi] at hz'; cases hz'
  | some ds =>
    rw [hi] at hz'
    have e : PyData.list ds = z := Option.some.inj hz'
    subst e
    obtain ⟨p, vs, e1, r1, q⟩ := ha.items hi
    subst e1
    refine call_list_of pins s σ H _ us Q I r ⟨p, vs, rfl, ?_, fun l hl => n.lst dm r1 hl⟩
    rcases q with ⟨_, q⟩ | ⟨e, q⟩
    · exact .inl (.inl (.inl q))
    · exact .inr q
theorem bi_int : CallR X (.type "int") (rD1 X.K .int) := by
  intro pins s σ H xs us Q I r h
  obtain ⟨O, x, a, z, rfl, dm, ha, hz, n⟩ := h
  cases a <;> try (simp [dBi] at hz; done)
  case int i =>
    have e : PyData.int i = z := Option.some.inj hz
    subst e
    exact call_int1 pins s σ H _ us Q I r (.inl ⟨i, by rw [ha.int], n.int⟩)
  case bool i =>
    have e : PyData.int (if i then 1 else 0) = z := Option.some.inj hz
    subst e
    exact call_int1 pins s σ H _ us Q I r (.inr ⟨i, by rw [ha.bl], n.int⟩)
/-- the item of a list that reads as a datum of it -/
theorem item_of {pins : List (Addr × Obj)} {s : Shared} {σ : L2.St} {H : Hp} {O : List Addr} {vs : List V} {ds : List D} {its : List Value} {i : Nat} {v : Value} {h' : Heap} {m : D} {bs : List Addr} (I : Inv X pins σ H s) (r1 : Rps X.K (hid O H) vs ds) (rv : Vals vs its)
    (hv : its[i]? = some v) (hm : Reads h' v m bs) (hk : ∀ b o, s.heap.get? b = some o → h'.get? b = some o) (hs : ∀ d ∈ ds, d.plain = true) : ∃ x, RelV x v ∧ Rp X.K (hid O H) x m := by
  have hl := rv.length
  have hi : i < its.length := (List.getElem?_eq_some_iff.mp hv).1
  have e : vs[i]? = some vs[i] := List.getElem?_eq_getElem (by omega)
  obtain ⟨u, e2, ru⟩ := rv.get e
  rw [hv] at e2
  cases e2
  obtain ⟨d, e3, rd⟩ := r1.get e
  obtain ⟨as, rr⟩ := (rd.mono (hid_le O H)).reads I ru
  have e4 := PySem.SeqAt.plain_unique d m v as bs (hs d (List.mem_of_getElem? e3)) (PyProof.Rows.Reads.keeps hk rr) hm
  subst e4
  exact ⟨_, ru, rd⟩
theorem shs_plain {xs : List D} (h : shs xs = true) : (∀ d ∈ xs, d.plain = true) ∧ PyData.depthAll xs ≤ 20 ∧ ∀ d ∈ xs, d.depth ≤ 20 := by
  unfold shs at h
  have h' := List.all_eq_true.mp h
  exact ⟨fun d hd => (plain_shal d 20 (h' d hd)).1, (plain_shals xs 20 h).2, fun d hd => (plain_shal d 20 (h' d hd)).2⟩
theorem allAlike_of {xs : List D} (h : allAlike xs = true) : ∀ x ∈ xs, ∀ y ∈ xs, W.alike x y = true := fun x hx y hy => by
  unfold allAlike at h
  exact List.all_eq_true.mp (List.all_eq_true.mp h x hx) y hy
theorem alikeAll_of {xs : List D} (h : allAlike xs = true) (hn : xs.all (fun d => !isN d) = true) : PySem.W.AlikeAll xs := ⟨allAlike_of h, fun x hx e => by
  subst e
  have := List.all_eq_true.mp hn _ hx
  simp [isN] at this⟩
theorem bi_min {k : Nat} (hr : Room k X.A) (hc : X.calm = true) : CallR X (.builtin "min") (rD1 X.K .min) := by
  intro pins s σ H xs us Q I r h
  obtain ⟨O, x, a, z, rfl, dm, ha, hz, n⟩ := h
  simp only [dBi] at hz
  cases hi : items a with
  | none => rw [hi] at hz; cases hz
  | some ds =>
    rw [hi] at hz
    have hz : dMin ds = some z := hz
    obtain ⟨p, vs, e1, r1, q⟩ := ha.items hi
    cases ds with
    | nil => simp [dMin] at hz
    | cons d ds =>
      simp only [dMin] at hz
      split at hz
      · rename_i hl
        rw [Bool.and_eq_true, Bool.and_eq_true] at hl
        obtain ⟨h1, h2, h3⟩ := hl
        obtain ⟨p1, p2, _⟩ := shs_plain h1
        have e : W.minD d ds = z := Option.some.inj hz
        subst e1
        rw [Vals.ref1 r]
        rcases q with ⟨_, q⟩ | ⟨_, q⟩
        · obtain ⟨its, rv, pl, hzz⟩ := I.list (.inl (.inl q))
          obtain ⟨as, ra⟩ := (r1.mono (hid_le O H)).reads I rv
          refine PySem.W.min_list_data (I.ok.hd hc) pl.isList (by simpa using ra) (alikeAll_of h2 h3) (by have := room_le hr (n := 21) (by omega); omega) fun i v h' tk bs hv hm hk => ?_
          rw [e] at hm
          obtain ⟨y, ry, rp⟩ := item_of I r1 rv (by simpa using hv) hm hk p1
          exact ⟨y, H, I.kept hk, ry, n.same rp⟩
        · obtain ⟨its, rv, pl, hzz⟩ := I.tuple q
          obtain ⟨as, ra⟩ := (r1.mono (hid_le O H)).reads I rv
          refine PySem.W.min_tuple_data (I.ok.hd hc) pl (by simpa using ra) (alikeAll_of h2 h3) (by have := room_le hr (n := 21) (by omega); omega) fun i v h' tk bs hv hm hk => ?_
          rw [e] at hm
          obtain ⟨y, ry, rp⟩ := item_of I r1 rv (by simpa using hv) hm hk p1
          exact ⟨y, H, I.kept hk, ry, n.same rp⟩
      · cases hz
theorem bi_max {k : Nat} (hr : Room k X.A) (hc : X.calm = true) : CallR X (.builtin "max") (rD1 X.K .max) := by
  intro pins s σ H xs us Q I r h
  obtain ⟨O, x, a, z, rfl, dm, ha, hz, n⟩ := h
  simp only [dBi] at hz
  cases hi : items a with
  | none => rw [hi] at hz; cases hz
  | some ds =>
    rw [hi] at hz
    have hz : dMax ds = some z := hz
    obtain ⟨p, vs, e1, r1, q⟩ := ha.items hi
    cases ds with
    | nil => simp [dMax] at hz
    | cons d ds =>
      simp only [dMax] at hz
      split at hz
      · rename_i hl
        rw [Bool.and_eq_true, Bool.and_eq_true] at hl
        obtain ⟨h1, h2, h3⟩ := hl
        obtain ⟨p1, p2, _⟩ := shs_plain h1
        have e : W.maxD d ds = z := Option.some.inj hz
        subst e1
        rw [Vals.ref1 r]
        rcases q with ⟨_, q⟩ | ⟨_, q⟩
        · obtain ⟨its, rv, pl, hzz⟩ := I.list (.inl (.inl q))
          obtain ⟨as, ra⟩ := (r1.mono (hid_le O H)).reads I rv
          refine PySem.W.max_list_data (I.ok.hd hc) pl.isList (by simpa using ra) (alikeAll_of h2 h3) (by have := room_le hr (n := 21) (by omega); omega) fun i v h' tk bs hv hm hk => ?_
          rw [e] at hm
          obtain ⟨y, ry, rp⟩ := item_of I r1 rv (by simpa using hv) hm hk p1
          exact ⟨y, H, I.kept hk, ry, n.same rp⟩
        · obtain ⟨its, rv, pl, hzz⟩ := I.tuple q
          obtain ⟨as, ra⟩ := (r1.mono (hid_le O H)).reads I rv
          refine PySem.W.max_tuple_data (I.ok.hd hc) pl (by simpa using ra) (alikeAll_of h2 h3) (by have := room_le hr (n := 21) (by omega); omega) fun i v h' tk bs hv hm hk => ?_
          rw [e] at hm
          obtain ⟨y, ry, rp⟩ := item_of I r1 rv (by simpa using hv) hm hk p1
          exact ⟨y, H, I.kept hk, ry, n.same rp⟩
      · cases hz
theorem vals_out {K : PySem.W.Frag} {O : List Addr} {H : Hp} : ∀ {out : List Value} {ds : List D}, PySem.W.EachIs (fun v d => ∃ x, RelV x v ∧ Rp K (hid O H) x d) out ds → ∃ vs, Vals vs out ∧ Rps K (hid O H) vs ds
  | _, _, .nil => ⟨[], .nil, .nil⟩
  | _, _, .cons ⟨x, r, q⟩ t => by
    obtain ⟨vs, h1, h2⟩ := vals_out t
    exact ⟨x :: vs, .cons r h1, .cons q h2⟩
theorem each_in {K : PySem.W.Frag} {O : List Addr} {H : Hp} : ∀ {vs : List V} {its : List Value} {ds : List D}, Vals vs its → Rps K (hid O H) vs ds → PySem.W.EachIs (fun v d => ∃ x, RelV x v ∧ Rp K (hid O H) x d) its ds
  | _, _, _, .nil, .nil => .nil
  | _, _, _, .cons r t, .cons q u => .cons ⟨_, r, q⟩ (each_in t u)
theorem tupNE_of {d : D} (h : tupNE d = true) : ∃ x r, d = .tuple (x :: r) := by
  cases d <;> simp [tupNE] at h
  rename_i xs
  cases xs with
  | nil => simp [tupNE] at h
  | cons x r => exact ⟨x, r, rfl⟩
theorem sortable_of {xs : List D} (h : sortable xs = true) : PySem.W.Sortable xs := by
  unfold sortable at h
  rw [Bool.or_eq_true] at h
  rcases h with h | h
  · exact .inl fun d hd => tupNE_of (List.all_eq_true.mp h d hd)
  · refine .inr fun d hd => ?_
    have q := List.all_eq_true.mp h d hd
    rw [Bool.and_eq_true] at q
    refine ⟨?_, ?_⟩
    · rintro rfl
      simp [isN] at q
    · rintro xs rfl
      simp [isTup] at q
mutual
theorem alike_refl_plain : ∀ d : D, d.plain = true → W.alike d d = true
  | .none, _ => by simp [W.alike]
  | .bool _, _ => by simp [W.alike]
  | .int _, _ => by simp [W.alike]
  | .str _, _ => by simp [W.alike]
  | .list xs, h => by
    simp only [W.alike]
    exact alikes_refl_plain xs (by simpa [PyData.plain] using h)
  | .tuple xs, h => by
    simp only [W.alike]
    exact alikes_refl_plain xs (by simpa [PyData.plain] using h)
  | .dict _, h => by simp [PyData.plain] at h
theorem alikes_refl_plain : ∀ xs : List D, PyData.plainAll xs = true → W.alikeAll xs xs = true
  | [], _ => by simp [W.alikeAll]
  | x :: xs, h => by
    have h' : x.plain = true ∧ PyData.plainAll xs = true := by simpa [PyData.plainAll] using h
    simp only [W.alikeAll, Bool.and_eq_true]
    exact ⟨alike_refl_plain x h'.1, alikes_refl_plain xs h'.2⟩
end
/-- one item, or none, is sorted whatever it is -/
theorem sorts_one {prog : Program} {w : World} {A : Around} {s : Shared} {vs : List Value} {ds : List D} (e : PySem.W.EachIs (fun v d => ∃ as, Reads s.heap v d as) vs ds) (hal : PySem.W.AllAlike ds) (hn : ∀ d ∈ ds, d ≠ .none) (h1 : ds.length ≤ 1) (hu : ∀ d, d ∈ ds → A.units + d.depth < cLine) :
    PySem.W.SortsAt prog w A s (PySem.W.dataKind s.heap ds) vs := by
  have hl := e.length
  refine ⟨fun v hv => ?_, general', fun E x y a b Q ha hb hq => ?_, fun h2 => by omega⟩
  · obtain ⟨d, hd, as, r⟩ := e.left v hv
    exact ⟨_, PySem.W.dataKind_some hal hd r⟩
  · obtain ⟨d, as, hd, ra, rfl⟩ := PySem.W.dataKind_inv ha
    obtain ⟨d', as', hd', rb, rfl⟩ := PySem.W.dataKind_inv hb
    exact PySem.W.oneLt_alike (f := false) (fun z => by cases z) ra rb (hal d hd d' hd') (hn d hd) (Nat.lt_of_le_of_lt (Nat.add_le_add_left (Nat.min_le_left _ _) _) (hu d hd)) hq
theorem sort_le1 {xs : List D} (h : xs.length ≤ 1) : xs.mergeSort (W.dataLe false id) = xs := by
  match xs, h with
  | [], _ => simp
  | [x], _ => simp
/-- sorted(xs) of a list, the sorting premise given at the heap in which it is asked -/
theorem sorted_list {pins : List (Addr × Obj)} {s : Shared} {σ : L2.St} {H : Hp} {O : List Addr} {p : Addr} {vs : List V} {ds : List D} {Q : VK} {k : Nat} (hr : Room k X.A) (I : Inv X pins σ H s) (dm : Dm O H) (r1 : Rps X.K (hid O H) vs ds) (q : H p = some (.lst vs))
    (hs : shs ds = true) (hal : PySem.W.AllAlike ds) (hk : PySem.W.Sortable ds ∨ (ds.length ≤ 1 ∧ ∀ d ∈ ds, d ≠ .none)) (n : Nw true X.K O H (.list (ds.mergeSort (W.dataLe false id))) Q) :
    wpAny (model X.prog X.w) X.A (call (.builtin "sorted") [.ref p]) (EP X pins σ Q) X.xe s := by
  obtain ⟨its, rv, pl, hz⟩ := I.list (.inl (.inl q))
  have e1 := each_in rv r1
  have er : PySem.W.EachIs (fun v d => ∃ as, Reads s.heap v (id d) as) its ds := e1.mono fun v d ⟨x, h1, h2⟩ => (h2.mono (hid_le O H)).reads I h1
  have hlen : ds.length ≤ sizeLine := by rw [← r1.length]; exact hz
  obtain ⟨_, _, dp⟩ := shs_plain hs
  have hu : ∀ d, d ∈ ds → X.A.units + 2 + d.depth < cLine := fun d hd => by have := room_le hr (n := 22) (by omega); have := dp d hd; omega
  have fin : ∀ out : List Value, PySem.W.EachIs (fun v d => ∃ x, RelV x v ∧ Rp X.K (hid O H) x d) out (ds.mergeSort (W.dataLe false id)) → out.length = ds.length → EP X pins σ Q (.ref (s.heap.objs.size + 1)) { s with heap := sortedAll s.heap its out.toArray } := fun out eo hol => by
    obtain ⟨ws, h1, h2⟩ := vals_out eo
    obtain ⟨c, hc⟩ := sortedAll_at s.heap its out.toArray
    have hn : H (s.heap.objs.size + 1) = none := I.hok.fresh (Nat.le_succ _)
    refine ⟨.ref (s.heap.objs.size + 1), upd H (s.heap.objs.size + 1) (.lst ws), I.laid (t' := s.toks) (fun b o e => sortedAll_old e) (Nat.le_succ _) ⟨?_, out, c, h1, hc⟩, rfl, n.lst dm h2 hn⟩
    have := h1.length
    omega
  rcases hk with hk | hk
  · refine PySem.W.sorted_data (bs := ds) (enc := id) (R := fun v d => ∃ x, RelV x v ∧ Rp X.K (hid O H) x d) pl.isList e1 er (by simpa using hal) (by simpa using hk) hlen hu fun out ho eo => fin out eo ho
  · have er' : PySem.W.EachIs (fun v d => ∃ as, Reads (PySem.W.sortingHeap (PySem.W.copyHeap s.heap its) (s.heap.objs.size + 1) its) v d as) its ds := er.mono fun _ _ ⟨as, r⟩ => ⟨as, PyProof.Rows.Reads.keeps (fun _ _ => PySem.W.sorting_copy_old) r⟩
    refine PySem.W.sorted_vals pl.isList (sorts_one (s := { s with heap := PySem.W.sortingHeap (PySem.W.copyHeap s.heap its) (s.heap.objs.size + 1) its }) er' hal hk.2 hk.1 hu) (by rw [e1.length]; exact hlen) ?_
    refine fin _ ?_ (by rw [PySem.W.sortVals_length false rfl]; exact e1.length)
    have hq := PySem.W.sortVals_data (enc := id) (h' := PySem.W.sortingHeap (PySem.W.copyHeap s.heap its) (s.heap.objs.size + 1) its) false e1 er' (by simpa using hal)
    simpa using hq
/-- sorted(xs) of a tuple, the sorting premise given at the heap in which it is asked -/
theorem sorted_tup {pins : List (Addr × Obj)} {s : Shared} {σ : L2.St} {H : Hp} {O : List Addr} {p : Addr} {vs : List V} {ds : List D} {Q : VK} {k : Nat} (hr : Room k X.A) (I : Inv X pins σ H s) (dm : Dm O H) (r1 : Rps X.K (hid O H) vs ds) (q : SqT X.K H p vs)
    (hs : shs ds = true) (hal : PySem.W.AllAlike ds) (hk : PySem.W.Sortable ds ∨ (ds.length ≤ 1 ∧ ∀ d ∈ ds, d ≠ .none)) (n : Nw true X.K O H (.list (ds.mergeSort (W.dataLe false id))) Q) :
    wpAny (model X.prog X.w) X.A (call (.builtin "sorted") [.ref p]) (EP X pins σ Q) X.xe s := by
  obtain ⟨its, rv, pl, hz⟩ := I.tuple q
  have e1 := each_in rv r1
  have er : PySem.W.EachIs (fun v d => ∃ as, Reads s.heap v (id d) as) its ds := e1.mono fun v d ⟨x, h1, h2⟩ => (h2.mono (hid_le O H)).reads I h1
  have hlen : ds.length ≤ sizeLine := by rw [← r1.length]; exact hz
  obtain ⟨_, _, dp⟩ := shs_plain hs
  have hu : ∀ d, d ∈ ds → X.A.units + 2 + d.depth < cLine := fun d hd => by have := room_le hr (n := 22) (by omega); have := dp d hd; omega
  have fin : ∀ out : List Value, PySem.W.EachIs (fun v d => ∃ x, RelV x v ∧ Rp X.K (hid O H) x d) out (ds.mergeSort (W.dataLe false id)) → out.length = ds.length → EP X pins σ Q (.ref (s.heap.objs.size + 1)) { s with heap := sortedAll s.heap its out.toArray } := fun out eo hol => by
    obtain ⟨ws, h1, h2⟩ := vals_out eo
    obtain ⟨c, hc⟩ := sortedAll_at s.heap its out.toArray
    have hn : H (s.heap.objs.size + 1) = none := I.hok.fresh (Nat.le_succ _)
    refine ⟨.ref (s.heap.objs.size + 1), upd H (s.heap.objs.size + 1) (.lst ws), I.laid (t' := s.toks) (fun b o e => sortedAll_old e) (Nat.le_succ _) ⟨?_, out, c, h1, hc⟩, rfl, n.lst dm h2 hn⟩
    have := h1.length
    omega
  rcases hk with hk | hk
  · refine sorted_data_tup (bs := ds) (R := fun v d => ∃ x, RelV x v ∧ Rp X.K (hid O H) x d) pl e1 er (by simpa using hal) (by simpa using hk) hlen hu fun out ho eo => fin out eo ho
  · have er' : PySem.W.EachIs (fun v d => ∃ as, Reads (PySem.W.sortingHeap (PySem.W.copyHeap s.heap its) (s.heap.objs.size + 1) its) v d as) its ds := er.mono fun _ _ ⟨as, r⟩ => ⟨as, PyProof.Rows.Reads.keeps (fun _ _ => PySem.W.sorting_copy_old) r⟩
    refine sorted_vals_tup pl (sorts_one (s := { s with heap := PySem.W.sortingHeap (PySem.W.copyHeap s.heap its) (s.heap.objs.size + 1) its }) er' hal hk.2 hk.1 hu) (by rw [e1.length]; exact hlen) ?_
    refine fin _ ?_ (by rw [PySem.W.sortVals_length false rfl]; exact e1.length)
    have hq := PySem.W.sortVals_data (enc := id) (h' := PySem.W.sortingHeap (PySem.W.copyHeap s.heap its) (s.heap.objs.size + 1) its) false e1 er' (by simpa using hal)
    simpa using hq
theorem bi_sorted {k : Nat} (hr : Room k X.A) : CallR X (.builtin "sorted") (rD1 X.K .sorted) := by
  intro pins s σ H xs us Q I r h
  obtain ⟨O, x, a, z, rfl, dm, ha, hz, n⟩ := h
  cases a <;> try (simp [dBi] at hz; done)
  case list ds =>
    obtain ⟨p, vs, e1, r1, q⟩ := ha.lst
    subst e1
    rw [Vals.ref1 r]
    simp only [dBi, dSort] at hz
    split at hz
    · rename_i hl
      rw [Bool.and_eq_true, Bool.and_eq_true] at hl
      obtain ⟨h1, h2, h3⟩ := hl
      have h1 := of_decide_eq_true h1
      have e : PyData.list ds = z := Option.some.inj hz
      subst e
      have hn : ∀ d ∈ ds, d ≠ .none := fun d hd e => by
        subst e
        have := List.all_eq_true.mp h3 _ hd
        simp [isN] at this
      have hal : PySem.W.AllAlike ds := fun d hd d' hd' => by
        match ds, h1, hd, hd' with
        | [y], _, hd, hd' =>
          rw [List.mem_singleton.mp hd, List.mem_singleton.mp hd']
          exact alike_refl_plain y ((shs_plain h2).1 y (by simp))
      exact sorted_list hr I dm r1 q h2 hal (.inr ⟨h1, hn⟩) (by rw [sort_le1 h1]; exact n)
    · split at hz
      · rename_i hl
        rw [Bool.and_eq_true, Bool.and_eq_true] at hl
        obtain ⟨h1, h2, h3⟩ := hl
        have e : PyData.list (ds.mergeSort (W.dataLe false id)) = z := Option.some.inj hz
        subst e
        exact sorted_list hr I dm r1 q h1 (fun x hx y hy => allAlike_of h2 x hx y hy) (.inl (sortable_of h3)) n
      · cases hz
  case tuple ds =>
    obtain ⟨p, vs, e1, r1, q, _⟩ := ha.tup
    subst e1
    rw [Vals.ref1 r]
    simp only [dBi, dSort] at hz
    split at hz
    · rename_i hl
      rw [Bool.and_eq_true, Bool.and_eq_true] at hl
      obtain ⟨h1, h2, h3⟩ := hl
      have h1 := of_decide_eq_true h1
      have e : PyData.list ds = z := Option.some.inj hz
      subst e
      have hn : ∀ d ∈ ds, d ≠ .none := fun d hd e => by
        subst e
        have := List.all_eq_true.mp h3 _ hd
        simp [isN] at this
      have hal : PySem.W.AllAlike ds := fun d hd d' hd' => by
        match ds, h1, hd, hd' with
        | [y], _, hd, hd' =>
          rw [List.mem_singleton.mp hd, List.mem_singleton.mp hd']
          exact alike_refl_plain y ((shs_plain h2).1 y (by simp))
      exact sorted_tup hr I dm r1 q h2 hal (.inr ⟨h1, hn⟩) (by rw [sort_le1 h1]; exact n)
    · split at hz
      · rename_i hl
        rw [Bool.and_eq_true, Bool.and_eq_true] at hl
        obtain ⟨h1, h2, h3⟩ := hl
        have e : PyData.list (ds.mergeSort (W.dataLe false id)) = z := Option.some.inj hz
        subst e
        exact sorted_tup hr I dm r1 q h1 (fun x hx y hy => allAlike_of h2 x hx y hy) (.inl (sortable_of h3)) n
      · cases hz
/-! ### isinstance, max, min of two -/
def tyN : Ty → String
  | .int => "int"
  | .bool => "bool"
  | .str => "str"
  | .tuple => "tuple"
  | .list => "list"
  | .dict => "dict"
def rIsD (K : PySem.W.Frag) (t : Ty) : List V → Hp → VK → Prop := fun xs H Q => ∃ O x a, xs = [x, .ty (tyN t)] ∧ Br K O H x a ∧ Q (.bl (dIs a t)) H
theorem bi_isin (t : Ty) : CallR X (.builtin "isinstance") (rIsD X.K t) := by
  intro pins s σ H xs us Q I r h
  obtain ⟨O, x, a, rfl, ha, q⟩ := h
  obtain ⟨u1, u2, rfl, r1, r2⟩ := vals2 r
  cases (show u2 = Value.type (tyN t) from r2)
  obtain ⟨as, ra⟩ := ha.reads I r1
  cases t with
  | int => exact PySem.W.isinstance_int_data ra fun tk _ => ⟨.bl _, H, I.tok tk, by cases a <;> rfl, q⟩
  | bool => exact PySem.W.isinstance_bool_data ra fun tk _ => ⟨.bl _, H, I.tok tk, by cases a <;> rfl, q⟩
  | str => exact PySem.W.isinstance_str_data ra fun tk _ => ⟨.bl _, H, I.tok tk, by cases a <;> rfl, q⟩
  | tuple => exact PySem.W.isinstance_tuple_data ra fun tk _ => ⟨.bl _, H, I.tok tk, by cases a <;> rfl, q⟩
  | list => exact PySem.W.isinstance_list_data ra fun tk _ => ⟨.bl _, H, I.tok tk, by cases a <;> rfl, q⟩
  | dict => exact PySem.W.isinstance_dict_data ra fun tk _ => ⟨.bl _, H, I.tok tk, by cases a <;> rfl, q⟩
def rM2 (K : PySem.W.Frag) (g : D → D → Option D) : List V → Hp → VK → Prop := fun xs H Q => ∃ O x y a b z, xs = [x, y] ∧ Br K O H x a ∧ Br K O H y b ∧ g a b = some z ∧ Nw false K O H z Q
theorem bi_mx (hc : X.calm = true) : CallR X (.builtin "max") (rM2 X.K dMx) := by
  intro pins s σ H xs us Q I r h
  obtain ⟨O, x, y, a, b, z, rfl, ha, hb, hz, n⟩ := h
  cases a <;> cases b <;> try (simp [dMx] at hz; done)
  case int.int i j =>
    have e : PyData.int (if j > i then j else i) = z := Option.some.inj hz
    subst e
    exact call_max2 hc pins s σ H _ us Q I r ⟨i, j, by rw [ha.int, hb.int], n.int⟩
theorem bi_mn (hc : X.calm = true) : CallR X (.builtin "min") (rM2 X.K dMn) := by
  intro pins s σ H xs us Q I r h
  obtain ⟨O, x, y, a, b, z, rfl, ha, hb, hz, n⟩ := h
  cases a <;> cases b <;> try (simp [dMn] at hz; done)
  case int.int i j =>
    have e : PyData.int (if j < i then j else i) = z := Option.some.inj hz
    subst e
    exact call_min2 hc pins s σ H _ us Q I r ⟨i, j, by rw [ha.int, hb.int], n.int⟩
end
end PV

set_option maxHeartbeats 4000000
/-! PV: xs[::-1] of lists and tuples. -/
namespace PV
open PySem L2 PyProof.Rows HT
section
variable {prog : Program} {w : World} {A : Around} {E : Value → Shared → Prop} {s : Shared}
theorem adjust_rev (n : Nat) : Builtin.Slice.sliceAdjust none none (-1) (n : Int) = ((n : Int) - 1, -1) := by
  unfold Builtin.Slice.sliceAdjust
  simp
theorem places_rev (n : Nat) : Builtin.Slice.slicePlaces ((n : Int) - 1) (-1) (-1) = n := by
  unfold Builtin.Slice.slicePlaces
  have c : ¬ ((-1 : Int) > 0) := by decide
  rw [if_neg c]
  by_cases h : (n : Int) - 1 > -1
  · rw [if_pos h, show ((n : Int) - 1 - -1 - 1) / (- -1) = (n : Int) - 1 by rw [show (- -1 : Int) = 1 by decide, Int.ediv_one]; omega]
    omega
  · rw [if_neg h]
    omega
theorem applied_rev {sl : Addr} {vs : Value} {n : Nat} {Q : Int × Int × Nat → Shared → Prop} (hs : s.heap.IsSliceOf sl .none .none vs) (ps : IsPart vs (some (-1))) (q : Q ((n : Int) - 1, -1, n) s) :
    wpAny (model prog w) A (Builtin.Slice.sliceApplied (.ref sl) (pure (n : Int))) Q E s := by
  obtain ⟨ob, ho, hc, hd⟩ := id hs
  unfold Builtin.Slice.sliceApplied Builtin.Slice.sliceFields
  refine wpAny_bind (wpAny_bind (wpAny_field ho hd (x := .none) rfl (wpAny_bind (wpAny_field ho hd (x := .none) rfl (wpAny_bind (wpAny_field ho hd (x := vs) rfl (wpAny_pure ?_)))))))
  refine wpAny_bind (slicePart_ ps ?_)
  show wpAny _ _ (if ((-1 : Int) == 0) = true then _ else _) _ _ s
  rw [if_neg (by decide)]
  refine wpAny_bind (slicePart_none (wpAny_bind (slicePart_none (wpAny_bind (wpAny_pure ?_)))))
  show wpAny _ _ (match Builtin.Slice.sliceAdjust none none (-1) (n : Int) with | (a, b) => pure (a, (-1 : Int), Builtin.Slice.slicePlaces a b (-1))) _ _ s
  rw [adjust_rev n]
  show wpAny _ _ (pure ((n : Int) - 1, (-1 : Int), Builtin.Slice.slicePlaces ((n : Int) - 1) (-1) (-1))) _ _ s
  rw [places_rev]
  exact wpAny_pure q
theorem fm_congr {α β : Type} {f g : α → Option β} : ∀ xs : List α, (∀ x ∈ xs, f x = g x) → xs.filterMap f = xs.filterMap g
  | [], _ => rfl
  | x :: xs, h => by rw [List.filterMap_cons, List.filterMap_cons, h x (by simp), fm_congr xs fun y hy => h y (by simp [hy])]
theorem pick_rev (xs : Array Value) : ((List.range xs.size).filterMap fun (m : Nat) => xs[(((xs.size : Int) - 1) + (m : Int) * (-1)).toNat]?).toArray = xs.toList.reverse.toArray := by
  have e : (List.range xs.size).filterMap (fun (m : Nat) => xs[(((xs.size : Int) - 1) + (m : Int) * (-1)).toNat]?) = xs.toList.reverse := by
    have e1 : (List.range xs.size).filterMap (fun (m : Nat) => xs[(((xs.size : Int) - 1) + (m : Int) * (-1)).toNat]?) = ((List.range xs.size).map fun k => xs.size - 1 - k).filterMap (xs[·]?) := by
      rw [List.filterMap_map]
      refine fm_congr _ fun m hm => ?_
      have := List.mem_range.mp hm
      rw [show (((xs.size : Int) - 1) + (m : Int) * (-1)).toNat = xs.size - 1 - m by omega]
      rfl
    rw [e1, PySem.W.krv_range, List.filterMap_reverse, PySem.W.krv_all]
  rw [e]
theorem get_tuple_rev {t sl : Addr} {its : Array Value} {vs : Value} {Q : Value → Shared → Prop} (ht : IsTup s.heap t its) (hs : s.heap.IsSliceOf sl .none .none vs) (ps : IsPart vs (some (-1)))
    (q : Q (.ref s.heap.objs.size) { s with heap := s.heap.push { cls := .type "tuple", data := .seq its.toList.reverse.toArray } }) (hz : its.size ≤ sizeLine) : wpAny (model prog w) A (getItem (.ref t) (.ref sl)) Q E s := by
  have hk : sizeOk (.seq its.toList.reverse.toArray) := by
    show its.toList.reverse.toArray.size ≤ sizeLine
    rw [List.size_toArray, List.length_reverse, Array.length_toList]
    exact hz
  obtain ⟨ob, ho, hc, hd⟩ := id hs
  have ty : s.TypeIs (.ref sl) "slice" := ⟨ob, ho, hc⟩
  unfold getItem
  try (with_reducible refine wpAny_holding ?_)
  first | (refine wpAny_bind (wpAny_pure ?_)) | skip
  refine wpAny_bind (wpAny_sequenceKey ht.typeIs (by decide) (wpAny_bind (wpAny_callSpecial?_slot (name := Str.ofString "__getitem__") ht.typeIs PyProof.Rows.slot_tuple_getitem
    (wpAny_call_entry PyProof.Rows.slot_tuple_getitem ht.typeIs PyProof.Rows.entry_tuple_getitem ?_ (PyProof.Rows.args_tuple_getitem _ _)))))
  show wpAny _ _ (Builtin.Tuple.tupleItemsOf (.ref t) >>= _) _ _ s
  refine wpAny_bind (tupleItemsOf_ ht (wpAny_bind (wpAny_typeOf ty ?_)))
  rw [if_pos (by decide)]
  refine wpAny_bind (applied_rev hs ps ?_)
  have no : ¬ ((((its.size : Int) - 1) == 0 && (-1 : Int) == 1 && its.size == its.size) = true) := by
    rw [show ((-1 : Int) == 1) = false by decide]
    simp
  show wpAny _ _ (if (((its.size : Int) - 1) == 0 && (-1 : Int) == 1 && its.size == its.size) = true then _ else _) _ _ s
  rw [if_neg no, pick_rev]
  first
    | exact wpAny_bind (m := Builtin.Tuple.tupleExact _) (wpAny_newObj_type (wpAny_pure ⟨_, rfl, wpAny_pure q⟩) hk)
    | exact wpAny_bind (m := Builtin.Tuple.tupleExact _) (wpAny_newObj_type (wpAny_bind (wpAny_pure (wpAny_pure ⟨_, rfl, wpAny_pure q⟩))) hk)
    | exact wpAny_bind (wpAny_bind (m := Builtin.Tuple.tupleExact _) (wpAny_newObj_type (wpAny_pure (wpAny_pure ⟨_, rfl, wpAny_pure q⟩)) hk))
    | exact wpAny_bind (wpAny_bind (m := Builtin.Tuple.tupleExact _) (wpAny_newObj_type (wpAny_pure ⟨_, rfl, wpAny_pure q⟩) hk))
end
section
variable {X : Cx} {e : Expr} {te : TE}
def rRv (K : PySem.W.Frag) (x : V) (H : Hp) (Q : VK) : Prop := ∃ O a z, Dm O H ∧ Br K O H x a ∧ dRev a = some z ∧ Nw true K O H z Q
theorem pe_rv {k : Nat} {p1 p2 p3 pos : Pos} (he : PE X e te) : PE X (.Subscript e (.Slice none none (some (.UnaryOp .USub (.Constant (.int 1) k p1) p2)) p3) pos) (fun σ H Q => te σ H fun x H1 => rRv X.K x H1 Q) := by
  refine ⟨fun pins s σ H Q I h => Subscript_ (thn (he.run pins s σ H _ I h) fun v s1 ⟨x, H1, I1, rx, q1⟩ => ?_)⟩
  obtain ⟨O, a, z, dm, ha, hz, nw⟩ := q1
  have hst : PO X (some (.UnaryOp .USub (.Constant (.int 1) k p1) p2)) (tPart (tUn (rU fun i => .int (-i)) (tC (.int 1)))) := po_some (pe_un un_neg pe_int)
  refine wpAny_Slice (thn (po_none.run pins s1 σ H1 (fun o G => o = none ∧ G = H1) I1 ⟨rfl, rfl⟩) fun vl s2 ⟨l, H2, I2, pl, el, e2⟩ => ?_)
  subst el e2
  refine thn (po_none.run pins s2 σ H2 (fun o G => o = none ∧ G = H2) I2 ⟨rfl, rfl⟩) fun vu s3 ⟨u, H3, I3, pu, eu, e3⟩ => ?_
  subst eu e3
  refine thn (hst.run pins s3 σ H3 (fun o G => o = some (-1) ∧ G = H3) I3 ⟨1, rfl, -1, rfl, rfl, rfl⟩) fun vs s4 ⟨o, H4, I4, ps, eo, e4⟩ => ?_
  subst eo e4
  cases pl
  cases pu
  have I5 : Inv X pins σ H4 { s4 with heap := s4.heap.push { cls := .type "slice", data := .fields #[.none, .none, vs] } } := I4.kept (t' := s4.toks) fun b ob q => Heap.get?_push_of_some _ q
  show wpAny (model X.prog X.w) X.A (subscriptTail e (.Slice none none (some (.UnaryOp .USub (.Constant (.int 1) k p1) p2)) p3) v (.ref s4.heap.objs.size)) (EP X pins σ Q) X.xe { s4 with heap := s4.heap.push { cls := .type "slice", data := .fields #[.none, .none, vs] } }
  cases a <;> try (simp [dRev] at hz; done)
  case list ds =>
    have ez : PyData.list ds.reverse = z := Option.some.inj hz
    subst ez
    obtain ⟨p, ws, e1, r1, h1⟩ := ha.lst
    subst e1
    cases rx
    obtain ⟨its, r, ht, hl⟩ := I5.list (.inl (.inl h1))
    have hlen := r.length
    refine tail_any (ops := [.ref p, .ref s4.heap.objs.size]) ht.isList.typeIs (PySem.slot_list_getitem.lookup) ?_ (by with_unfolding_all rfl)
    refine wpAny_getItem_list_slice ht.isList (Heap.IsSliceOf.new _ .none .none vs) .none .none ps (by decide) ?_ (by rw [List.size_toArray]; omega)
    rw [PySem.W.krv_pick]
    exact ⟨.ref _, _, I5.laid (t' := s4.toks) (o := .lst ws.reverse) (fun b ob q => Heap.get?_push_of_some _ q) (Nat.le_refl _) ⟨by rw [List.length_reverse]; exact hl, _, 0, r.reverse, Heap.get?_push_size _ rfl⟩, rfl, nw.lst dm r1.reverse (I5.hok.fresh (Nat.le_refl _))⟩
  case tuple ds =>
    have ez : PyData.tuple ds.reverse = z := Option.some.inj hz
    subst ez
    obtain ⟨p, ws, e1, r1, h1, _⟩ := ha.tup
    subst e1
    cases rx
    obtain ⟨its, r, ht, hl⟩ := I5.tuple h1
    have hlen := r.length
    refine tail_any (ops := [.ref p, .ref s4.heap.objs.size]) ht.typeIs PyProof.Rows.slot_tuple_getitem.lookup ?_ (by with_unfolding_all rfl)
    refine get_tuple_rev ht (Heap.IsSliceOf.new _ .none .none vs) ps ?_ (by rw [List.size_toArray]; omega)
    exact ⟨.ref _, _, I5.laid (t' := s4.toks) (o := .tup ws.reverse) (fun b ob q => Heap.get?_push_of_some _ q) (Nat.le_refl _) ⟨by rw [List.length_reverse]; exact hl, _, r.reverse, IsTup.new _ _⟩, rfl, nw.tup dm r1.reverse (I5.hok.fresh (Nat.le_refl _))⟩
end
end PV

set_option maxHeartbeats 4000000
/-! PV: views of the syntax, the checker. -/
namespace PV
open PySem L2

structure Ct where
  N : List Str
  sc : Scope
  own : Scope
  iw : Nat
  fs : List (Nat × Str × Nat × Bool)
  gl : List (Nat × Str)

def isGl (ct : Ct) (x : Str) : Bool := ct.sc.names.lookup x == some .globalImplicit
def isLoc (sc : Scope) (x : Str) : Bool := sc.names.lookup x == some .local || sc.names.lookup x == some .cell
def isVis (sc : Scope) (x : Str) : Bool := isLoc sc x || sc.names.lookup x == some .free
def notDbg (x : Str) : Bool := !(x == ("__debug__" : Str)) && !(x == ("__classdict__" : Str))
def notStar : Expr → Bool
  | .Starred .. => false
  | _ => true
def notSet : Expr → Bool
  | .Set .. => false
  | _ => true
/-- a test that is a value's truth -/
def notTest : Expr → Bool
  | .UnaryOp .Not _ _ => false
  | .BoolOp .. => false
  | .IfExp .. => false
  | .Compare .. => false
  | _ => true

/-! views -/
def vConst : Expr → Option Const
  | .Constant c _ _ => some c
  | _ => none
def vName : Expr → Option Str
  | .Name x _ => some x
  | _ => none
def vBin : Expr → Option (Expr × Operator × Expr)
  | .BinOp a o b _ => some (a, o, b)
  | _ => none
def vUn : Expr → Option (UnaryOp × Expr)
  | .UnaryOp o a _ => some (o, a)
  | _ => none
def vBool : Expr → Option (BoolOp × List Expr × Pos)
  | .BoolOp o vs p => some (o, vs, p)
  | _ => none
def vIf : Expr → Option (Expr × Expr × Expr)
  | .IfExp t a b _ => some (t, a, b)
  | _ => none
def vTup : Expr → Option (List Expr)
  | .Tuple es _ _ => some es
  | _ => none
def vLst : Expr → Option (List Expr)
  | .List es _ => some es
  | _ => none
def vCmp : Expr → Option (Expr × List CmpOp × List Expr)
  | .Compare a os bs _ => some (a, os, bs)
  | _ => none
def vSub : Expr → Option (Expr × Expr)
  | .Subscript a i _ => some (a, i)
  | _ => none
def vSli : Expr → Option (Option Expr × Option Expr × Option Expr)
  | .Slice a b c _ => some (a, b, c)
  | _ => none
/-- f(es), f a name -/
def vCall : Expr → Option (Str × List Expr)
  | .Call (.Name x _) es [] _ => some (x, es)
  | _ => none
/-- o.m(es) -/
def vMeth : Expr → Option (Expr × Str × Pos × List Expr × Pos)
  | .Call (.Attribute o m ap) es [] cp => some (o, m, ap, es, cp)
  | _ => none
def vLc1 : Expr → Option (Expr × Expr × Expr × List Expr × Scope)
  | .ListComp elt [⟨tg, it, ifs, 0⟩] sc _ => some (elt, tg, it, ifs, sc)
  | _ => none
def vLc2 : Expr → Option (Expr × (Expr × Expr × List Expr) × (Expr × Expr × List Expr) × Scope)
  | .ListComp elt [⟨tg, it, ifs, 0⟩, ⟨tg1, it1, ifs1, 0⟩] sc _ => some (elt, (tg, it, ifs), (tg1, it1, ifs1), sc)
  | _ => none

theorem vConst_eq {e : Expr} {c : Const} (h : vConst e = some c) : ∃ j p, e = .Constant c j p := by
  cases e <;> simp [vConst] at h
  subst h
  exact ⟨_, _, rfl⟩
theorem vName_eq {e : Expr} {c : Str} (h : vName e = some c) : ∃ p, e = .Name c p := by
  cases e <;> simp [vName] at h
  subst h
  exact ⟨_, rfl⟩
theorem vBin_eq {e : Expr} {a b : Expr} {o : Operator} (h : vBin e = some (a, o, b)) : ∃ p, e = .BinOp a o b p := by
  cases e <;> simp [vBin] at h
  obtain ⟨rfl, rfl, rfl⟩ := h
  exact ⟨_, rfl⟩
theorem vUn_eq {e : Expr} {a : Expr} {o : UnaryOp} (h : vUn e = some (o, a)) : ∃ p, e = .UnaryOp o a p := by
  cases e <;> simp [vUn] at h
  obtain ⟨rfl, rfl⟩ := h
  exact ⟨_, rfl⟩
theorem vBool_eq {e : Expr} {o : BoolOp} {vs : List Expr} {p : Pos} (h : vBool e = some (o, vs, p)) : e = .BoolOp o vs p := by
  cases e <;> simp [vBool] at h
  obtain ⟨rfl, rfl, rfl⟩ := h
  rfl
theorem vIf_eq {e : Expr} {t a b : Expr} (h : vIf e = some (t, a, b)) : ∃ p, e = .IfExp t a b p := by
  cases e <;> simp [vIf] at h
  obtain ⟨rfl, rfl, rfl⟩ := h
  exact ⟨_, rfl⟩
theorem vTup_eq {e : Expr} {es : List Expr} (h : vTup e = some es) : ∃ k p, e = .Tuple es k p := by
  cases e <;> simp [vTup] at h
  subst h
  exact ⟨_, _, rfl⟩
theorem vLst_eq {e : Expr} {es : List Expr} (h : vLst e = some es) : ∃ p, e = .List es p := by
  cases e <;> simp [vLst] at h
  subst h
  exact ⟨_, rfl⟩
theorem vCmp_eq {e : Expr} {a : Expr} {os : List CmpOp} {bs : List Expr} (h : vCmp e = some (a, os, bs)) : ∃ p, e = .Compare a os bs p := by
  cases e <;> simp [vCmp] at h
  obtain ⟨rfl, rfl, rfl⟩ := h
  exact ⟨_, rfl⟩
theorem vSub_eq {e : Expr} {a i : Expr} (h : vSub e = some (a, i)) : ∃ p, e = .Subscript a i p := by
  cases e <;> simp [vSub] at h
  obtain ⟨rfl, rfl⟩ := h
  exact ⟨_, rfl⟩
theorem vSli_eq {e : Expr} {a b c : Option Expr} (h : vSli e = some (a, b, c)) : ∃ p, e = .Slice a b c p := by
  cases e <;> simp [vSli] at h
  obtain ⟨rfl, rfl, rfl⟩ := h
  exact ⟨_, rfl⟩
theorem vCall_eq {e : Expr} {x : Str} {es : List Expr} (h : vCall e = some (x, es)) : ∃ p q, e = .Call (.Name x p) es [] q := by
  cases e with
  | Call f args kws pos =>
    cases f <;> simp [vCall] at h
    cases kws <;> simp [vCall] at h
    obtain ⟨rfl, rfl⟩ := h
    exact ⟨_, _, rfl⟩
  | _ => simp [vCall] at h
theorem vMeth_eq {e o : Expr} {m : Str} {ap cp : Pos} {es : List Expr} (h : vMeth e = some (o, m, ap, es, cp)) : e = .Call (.Attribute o m ap) es [] cp := by
  cases e with
  | Call f args kws pos =>
    cases f <;> simp [vMeth] at h
    cases kws <;> simp [vMeth] at h
    obtain ⟨rfl, rfl, rfl, rfl, rfl⟩ := h
    rfl
  | _ => simp [vMeth] at h
theorem vLc1_eq {e elt tg it : Expr} {ifs : List Expr} {sc : Scope} (h : vLc1 e = some (elt, tg, it, ifs, sc)) : ∃ p, e = .ListComp elt [⟨tg, it, ifs, 0⟩] sc p := by
  cases e with
  | ListComp el gs s p =>
    unfold vLc1 at h
    split at h
    · rename_i a b c d f g e1
      cases e1
      cases h
      exact ⟨_, rfl⟩
    · cases h
  | _ => simp [vLc1] at h
theorem vLc2_eq {e elt tg it tg1 it1 : Expr} {ifs ifs1 : List Expr} {sc : Scope} (h : vLc2 e = some (elt, (tg, it, ifs), (tg1, it1, ifs1), sc)) : ∃ p, e = .ListComp elt [⟨tg, it, ifs, 0⟩, ⟨tg1, it1, ifs1, 0⟩] sc p := by
  cases e with
  | ListComp el gs s p =>
    unfold vLc2 at h
    split at h
    · rename_i e1
      cases e1
      cases h
      exact ⟨_, rfl⟩
    · cases h
  | _ => simp [vLc2] at h

/-! the checker -/
def biN : Bi → Str
  | .len => "len"
  | .abs => "abs"
  | .sum => "sum"
  | .any => "any"
  | .all => "all"
  | .sorted => "sorted"
  | .min => "min"
  | .max => "max"
  | .tuple => "tuple"
  | .list => "list"
  | .int => "int"
  | .str => "str"
  | .dict => "dict"
  | .sset => "sorted"
  | .lset => "len"
/-- of a set that lasts no longer than the call -/
def biS : Bi → Bool
  | .sset => true
  | .lset => true
  | _ => false
/-- the scope of a block within -/
def Ct.blk (ct : Ct) (scope : Scope) : Ct := { ct with sc := relS scope ct.sc, own := scope }
def ownP (ct : Ct) (own : List Nat) : List (Str × Nat) := own.filterMap fun i => (ct.N[i]?).map fun x => (x, i)
def blkB (ct : Ct) (scope : Scope) (own : List Nat) : Bool :=
  (scope.kind == .function) && scope.names.all (fun y => scope.names.lookup y.1 == some y.2) && ((ownP ct own).map (·.2) == own)
    && scope.names.all (fun y => !(y.2 == .free) || (ct.sc.names.lookup y.1 == some .cell || ct.sc.names.lookup y.1 == some .free))
    && scope.names.all (fun y => !(y.2 == .local || y.2 == .cell) || ((ownP ct own).any (·.1 == y.1) || !ct.N.contains y.1))
    && !own.contains ct.iw
mutual
/-- a target: names of the block that runs, or tuples of such -/
def chkP (ct : Ct) : Pat → Expr → Bool
  | .nm i, e => match vName e with
    | some x => ct.N[i]? == some x && isLoc ct.own x && !(i == ct.iw)
    | none => false
  | .tp ps, e => match vTup e with
    | some es => chkPs ct ps es
    | none => false
def chkPs (ct : Ct) : Pats → List Expr → Bool
  | .nil, [] => true
  | .cons p ps, e :: es => notStar e && (chkP ct p e && chkPs ct ps es)
  | _, _ => false
end
def isTupE : Expr → Bool
  | .Tuple .. => true
  | _ => false
def isNo : E → Bool
  | .none => true
  | _ => false
def isYes : E → Bool
  | .yes => true
  | _ => false
mutual
def chkE (ct : Ct) : E → Expr → Bool
  | .none, e => match vConst e with
    | some .none => true
    | _ => false
  | .bl b, e => match vConst e with
    | some (.bool c) => b == c
    | _ => false
  | .int i, e => match vConst e with
    | some (.int j) => i == j
    | _ => false
  | .str s, e => match vConst e with
    | some (.str t) => s == t
    | _ => false
  | .var i, e => match vName e with
    | some x => ct.N[i]? == some x && (isVis ct.sc x && notDbg x)
    | none => false
  | .gl n, e => match vName e with
    | some x => ct.gl.contains (n, x) && (isGl ct x && notDbg x)
    | none => false
  | .bin o a b, e => match vBin e with
    | some (x, p, y) => decide (p = binOp o) && (chkE ct a x && chkE ct b y)
    | none => false
  | .neg a, e => match vUn e with
    | some (.USub, x) => chkE ct a x
    | _ => false
  | .not a, e => match vUn e with
    | some (.Not, x) => chkE ct a x
    | _ => false
  | .and a b, e => match vBool e with
    | some (.And, [x, y], _) => chkE ct a x && chkE ct b y
    | some (.And, x :: y :: z :: r, p) => chkE ct a x && chkE ct b (.BoolOp .And (y :: z :: r) p)
    | _ => false
  | .or a b, e => match vBool e with
    | some (.Or, [x, y], _) => chkE ct a x && chkE ct b y
    | some (.Or, x :: y :: z :: r, p) => chkE ct a x && chkE ct b (.BoolOp .Or (y :: z :: r) p)
    | _ => false
  | .cmp c a b, e => match vCmp e with
    | some (x, [o], [y]) => decide (o = cmOp c) && (notSet y && (chkE ct a x && chkE ct b y))
    | _ => false
  | .chain c c' a b d, e => match vCmp e with
    | some (x, [o, o'], [y, z]) => decide (o = cmOp c) && (decide (o' = cmOp c') && (notSet z && (chkE ct a x && (chkE ct b y && chkE ct d z))))
    | _ => false
  | .chain3 c c' c2 a b d g, e => match vCmp e with
    | some (x, [o, o', o2], [y, z, u]) => decide (o = cmOp c) && (decide (o' = cmOp c') && (decide (o2 = cmOp c2) && (notSet u && (chkE ct a x && (chkE ct b y && (chkE ct d z && chkE ct g u))))))
    | _ => false
  | .ife t a b, e => match vIf e with
    | some (x, y, z) => chkE ct t x && (chkE ct a y && chkE ct b z)
    | none => false
  | .tup es, e => match vTup e with
    | some xs => decide (es.len ≤ 1000) && chkEs ct es xs
    | none => false
  | .lst es, e => match vLst e with
    | some xs => decide (es.len ≤ 1000) && chkEs ct es xs
    | none => false
  | .ix a i, e => match vSub e with
    | some (x, y) => (vSli y).isNone && (chkE ct a x && chkE ct i y)
    | none => false
  | .sl a lo hi, e => match vSub e with
    | some (x, y) => match vSli y with
      | some (l, h, none) => chkE ct a x && ((match l with
        | none => isNo lo
        | some y => !isNo lo && chkE ct lo y) && (match h with
        | none => isNo hi
        | some y => !isNo hi && chkE ct hi y))
      | _ => false
    | none => false
  | .rev a, e => match vSub e with
    | some (x, y) => match vSli y with
      | some (none, none, some z) => match vUn z with
        | some (.USub, c) => match vConst c with
          | some (.int 1) => chkE ct a x
          | _ => false
        | _ => false
      | _ => false
    | none => false
  | .comp own p s t elt, e => match vLc1 e with
    | some (el, tg, it, ifs, scope) => blkB ct scope own && (p.ns.all own.contains && (chkS ct s tg it && (chkP (ct.blk scope) p tg && ((match ifs with
        | [] => isYes t
        | [y] => !isYes t && chkE (ct.blk scope) t y
        | _ => false) && chkE (ct.blk scope) elt el))))
    | none => false
  | .comp2 own own1 p s t p1 s1 t1 elt, e => match vLc2 e with
    | some (el, (tg, it, ifs), (tg1, it1, ifs1), scope) => blkB ct scope own && (own1.all own.contains && (p.ns.all own.contains && (p1.ns.all own1.contains && (chkS ct s tg it && (chkP (ct.blk scope) p tg && ((match ifs with
        | [] => isYes t
        | [y] => !isYes t && chkE (ct.blk scope) t y
        | _ => false) &&
        (chkS (ct.blk scope) s1 tg1 it1 && (chkP (ct.blk scope) p1 tg1 && ((match ifs1 with
        | [] => isYes t1
        | [y] => !isYes t1 && chkE (ct.blk scope) t1 y
        | _ => false) && chkE (ct.blk scope) elt el)))))))))
    | none => false
  | .call f es, e => match vCall e with
    | some (x, y :: ys) => ct.fs.contains (f, x, (y :: ys).length, false) && (isGl ct x && (notDbg x && chkEs ct es (y :: ys)))
    | _ => false
  | .callw f es, e => match vCall e with
    | some (x, y :: ys) => match vName y with
      | some z => ct.fs.contains (f, x, (y :: ys).length, true) && (isGl ct x && (notDbg x && (ct.N[ct.iw]? == some z && (isVis ct.sc z && (notDbg z && chkEs ct es ys)))))
      | none => false
    | _ => false
  | .bi b a, e => match vCall e with
    | some (x, [y]) => if biS b = true then (match vCall y with
      | some (x2, [y2]) => x == biN b && (x2 == ("set" : Str) && (isGl ct x && (isGl ct x2 && (notStar y2 && chkE ct a y2))))
      | _ => false) else biOk b && (x == biN b && (isGl ct x && (notStar y && chkE ct a y)))
    | _ => false
  | .bis b s, e => match vCall e with
    | some (x, [y]) => match b with
      | .tuple => x == ("tuple" : Str) && (isGl ct x && (notStar y && chkR ct s y))
      | .list => x == ("list" : Str) && (isGl ct x && (notStar y && chkR ct s y))
      | _ => false
    | _ => false
  | .mx a b, e => match vCall e with
    | some (x, [y, z]) => x == ("max" : Str) && (isGl ct x && (notStar y && (notStar z && (chkE ct a y && chkE ct b z))))
    | _ => false
  | .mn a b, e => match vCall e with
    | some (x, [y, z]) => x == ("min" : Str) && (isGl ct x && (notStar y && (notStar z && (chkE ct a y && chkE ct b z))))
    | _ => false
  | .isin a t, e => match vCall e with
    | some (x, [y, z]) => match vName z with
      | some n => x == ("isinstance" : Str) && (isGl ct x && (n == Str.ofString (tyN t) && (isGl ct n && (notStar y && chkE ct a y))))
      | none => false
    | _ => false
  | .bad, _ => true
  | _, _ => false
def chkEs (ct : Ct) : Es → List Expr → Bool
  | .nil, [] => true
  | .cons c es, x :: xs => notStar x && (chkE ct c x && chkEs ct es xs)
  | _, _ => false
/-- what a loop walks, with its target -/
def chkS (ct : Ct) : Src → Expr → Expr → Bool
  | .val c, _, x => notSet x && chkE ct c x
  | .r1 a, _, e => match vCall e with
    | some (x, [y]) => x == ("range" : Str) && (isGl ct x && (notStar y && chkE ct a y))
    | _ => false
  | .r2 a b, _, e => match vCall e with
    | some (x, [y, z]) => x == ("range" : Str) && (isGl ct x && (notStar y && (notStar z && (chkE ct a y && chkE ct b z))))
    | _ => false
  | .r3 a b c, _, e => match vCall e with
    | some (x, [y, z, u]) => x == ("range" : Str) && (isGl ct x && (notStar y && (notStar z && (notStar u && (chkE ct a y && (chkE ct b z && chkE ct c u))))))
    | _ => false
  | .zip a b, tg, e => match vCall e with
    | some (x, [y, z]) => isTupE tg && (x == ("zip" : Str) && (isGl ct x && (notStar y && (notStar z && (chkE ct a y && chkE ct b z)))))
    | _ => false
/-- range(..) as an argument -/
def chkR (ct : Ct) : Src → Expr → Bool
  | .r1 a, e => match vCall e with
    | some (x, [y]) => x == ("range" : Str) && (isGl ct x && (notStar y && chkE ct a y))
    | _ => false
  | .r2 a b, e => match vCall e with
    | some (x, [y, z]) => x == ("range" : Str) && (isGl ct x && (notStar y && (notStar z && (chkE ct a y && chkE ct b z))))
    | _ => false
  | _, _ => false
end
/-- a bound of a slice: none where it is left out -/
def chkO (ct : Ct) (c : E) (o : Option Expr) : Bool := match o with
  | none => isNo c
  | some y => !isNo c && chkE ct c y
/-- the tests of a clause: one or none -/
def chkT (ct : Ct) (t : E) (ifs : List Expr) : Bool := match ifs with
  | [] => isYes t
  | [y] => !isYes t && chkE ct t y
  | _ => false
end PV

set_option maxHeartbeats 4000000
/-! PV: expressions: what the interpreter reckons the model gives. -/
namespace PV
open PySem L2

structure Pm where
  C : Nat → Option D
  F : Nat → List D → W D
  G : Nat → List D → W D
  w : Wp
  iw : Nat

/-- the promise of a def of n parameters that gives what f says -/
def spF (n : Nat) (f : List D → W D) (K : PySem.W.Frag) : Sp := fun vs H Q _ => vs.length = n ∧ ∃ O ds R, Dm O H ∧ Rps K (hid O H) vs ds ∧ f ds R ∧ ∀ d v H', R d → Le H H' → Rp K (hid O H') v d → Q v H'
/-- .. that draws: its first parameter is w -/
def spG (n : Nat) (f : List D → W D) (K : PySem.W.Frag) : Sp := fun vs H Q _ => vs.length = n ∧ ∃ t O ds R vs', vs = .ref t.1 :: vs' ∧ WOk (some t) H ∧ t.1 ∈ O ∧ Dm O H ∧ Rps K (hid O H) vs' ds ∧ f ds R ∧
  ∀ d v H', R d → Ext (some t) H H' → Rp K (hid O H') v d → Q v H'
def bltN : List Str := ["len", "abs", "sum", "any", "all", "sorted", "min", "max", "tuple", "list", "int", "str", "dict", "set", "range", "zip", "isinstance", "bool"]

/-- the context in which code of the checked form runs -/
structure Gd (P : Pm) (ct : Ct) (X : Cx) (k : Nat) : Prop where
  hN : X.N = ct.N
  nd : ct.N.Nodup
  hsc : X.env.scope = ct.sc
  hiw : ct.iw = P.iw
  calm : X.calm = true
  room : Room k X.A
  blt : ∀ x ∈ bltN, X.mg x = none
  sto : ∀ x, isLoc ct.own x = true → Loc X.env.scope x ∧ (X.fn x = true ∨ X.env.scope.names.lookup x = some .local)
  fns : ∀ f x n b, (f, x, n, b) ∈ ct.fs → ∃ a fd ps, X.mg x = some (.ref a) ∧ PySem.W.keepIn X.K (.ref a) = true ∧ Binds X.K fd ps [] ∧
    FnOk X.prog X.w X.K X.mg X.base CX0 k a fd ps (if b = true then spG n (P.G f) X.K else spF n (P.F f) X.K)
  hws : ∀ f x n, (f, x, n, true) ∈ ct.fs → P.w.isSome = true
  gls : ∀ n x, (n, x) ∈ ct.gl → ∃ v u d, X.mg x = some u ∧ RelV v u ∧ P.C n = some d ∧ ∀ H, Rp X.K H v d

abbrev Pm.ev (P : Pm) (c : E) (ρ : Env) : W D := PV.ev wM P.C P.F P.G c ρ
abbrev Pm.evs (P : Pm) (c : Es) (ρ : Env) : W (List D) := PV.evs wM P.C P.F P.G c ρ
abbrev Pm.evS (P : Pm) (c : Src) (ρ : Env) : W (List D) := PV.evS wM P.C P.F P.G c ρ
abbrev NoOw (vs : List Nat) (ρ : Env) : Prop := ∀ i ∈ vs, getO ρ i = none
def Res (c : E) (K : PySem.W.Frag) (O : List Addr) (H H' : Hp) (v : V) (d : D) : Prop := Rp K (hid O H') v d ∧ (c.fresh = true → isMut d = true → FrP K O H H' v d)
def tE (P : Pm) (K : PySem.W.Frag) (c : E) : TE := fun σ H Q => ∃ O0 H0 O ρ R, Sim K P.w P.iw O0 H0 O H σ ρ ∧ NoOw (esc false c) ρ ∧ P.ev c ρ R ∧ ∀ d v H', R d → Ext P.w H H' → Res c K O H H' v d → Q v H'
def SlOw (σ : L2.St) (ρ : Env) (p : Addr) : Prop := ∃ (i : Nat) (d : D), ρ[i]? = some (.ow d) ∧ σ[i]? = some (some (.ref p))
/-- a list that some slot alone holds is that slot's -/
def LsOw (O : List Addr) (σ : L2.St) (ρ : Env) (v : V) (d : D) : Prop := ∀ p ds, v = .ref p → d = .list ds → p ∈ O → SlOw σ ρ p
def tB (P : Pm) (K : PySem.W.Frag) (c : E) : TE := fun σ H Q => ∃ O0 H0 O ρ R, Sim K P.w P.iw O0 H0 O H σ ρ ∧ NoOw (esc true c) ρ ∧ P.ev c ρ R ∧ ∀ d v H', R d → Ext P.w H H' → Br K O H' v d → LsOw O σ ρ v d → Q v H'
def tT (P : Pm) (K : PySem.W.Frag) (c : E) : TT := fun σ H Q => ∃ O0 H0 O ρ R, Sim K P.w P.iw O0 H0 O H σ ρ ∧ NoOw (esc true c) ρ ∧ P.ev c ρ R ∧ ∀ d H', R d → Ext P.w H H' → ∃ b, bool? d = some b ∧ Q b H'
def tEs (P : Pm) (K : PySem.W.Frag) (c : Es) : TA := fun σ H Q => ∃ O0 H0 O ρ R, Sim K P.w P.iw O0 H0 O H σ ρ ∧ NoOw (escs c) ρ ∧ P.evs c ρ R ∧ ∀ ds vs H', R ds → Ext P.w H H' → Rps K (hid O H') vs ds → vs.length = c.len → Q vs H'

theorem _root_.L2.PE.imp {X : Cx} {e : Expr} {t t' : TE} (h : PE X e t') (k : ∀ σ H Q, t σ H Q → t' σ H Q) : PE X e t := ⟨fun pins s σ H Q I q => h.run pins s σ H Q I (k σ H Q q)⟩
theorem _root_.L2.PT.imp {X : Cx} {e : Expr} {t t' : TT} (h : PT X e t') (k : ∀ σ H Q, t σ H Q → t' σ H Q) : PT X e t := ⟨fun pins s σ H Q I q => h.run pins s σ H Q I (k σ H Q q)⟩
theorem _root_.L2.PW.imp {X : Cx} {e : Expr} {t t' : TT} (h : PW X e t') (k : ∀ σ H Q, t σ H Q → t' σ H Q) : PW X e t := ⟨fun wh pins s σ H Q I q => h.run wh pins s σ H Q I (k σ H Q q)⟩
theorem _root_.L2.PA.imp {X : Cx} {es : List Expr} {t t' : TA} (h : PA X es t') (k : ∀ σ H Q, t σ H Q → t' σ H Q) : PA X es t := ⟨fun pos pins s σ H Q I q => h.run pos pins s σ H Q I (k σ H Q q)⟩
theorem wlift {α : Type} {o : Option α} {R : α → Prop} (h : wM.lift o R) : ∃ z, o = some z ∧ R z := by
  cases o with
  | none => exact False.elim h
  | some z => exact ⟨z, rfl, h⟩
theorem FrP.back {w : Wp} {K : PySem.W.Frag} {O : List Addr} {H H1 H2 : Hp} {v : V} {z : D} (h : FrP K O H1 H2 v z) (e : Ext w H H1) : FrP K O H H2 v z := by
  obtain ⟨p, vs, ds, e1, e2, n, hp, r⟩ := h
  refine ⟨p, vs, ds, e1, e2, ?_, hp, r⟩
  cases q : H p with
  | none => rfl
  | some o =>
    by_cases hw : w.is p
    · obtain ⟨t, ht, rfl⟩ := hw
      have wk := e.2
      rw [ht] at wk
      obtain ⟨j, _, h1, _⟩ := wk
      rw [h1] at n
      cases n
    · rw [e.1 p o hw q] at n
      cases n
theorem noOw_l {a b : List Nat} {ρ : Env} (h : NoOw (a ++ b) ρ) : NoOw a ρ := fun i hi => h i (List.mem_append_left _ hi)
theorem noOw_r {a b : List Nat} {ρ : Env} (h : NoOw (a ++ b) ρ) : NoOw b ρ := fun i hi => h i (List.mem_append_right _ hi)

section
variable {P : Pm} {ct : Ct} {X : Cx} {k : Nat} {K : PySem.W.Frag} {O0 O : List Addr} {H0 H : Hp} {σ : L2.St} {ρ : Env}
theorem Sim.dm (S : Sim K P.w P.iw O0 H0 O H σ ρ) : Dm O H := S.dom
theorem Gd.gl (g : Gd P ct X k) {x : Str} (h : isGl ct x = true) : Gl X x := by
  unfold isGl at h
  show X.env.scope.names.lookup x = _
  rw [g.hsc]
  exact beq_iff_eq.mp h
theorem Gd.vis (g : Gd P ct X k) {x : Str} (h : isVis ct.sc x = true) : Vis X.env.scope x := by
  unfold isVis isLoc at h
  rw [g.hsc]
  simp only [Bool.or_eq_true, beq_iff_eq] at h
  rcases h with (h | h) | h
  · exact .inl h
  · exact .inr (.inl h)
  · exact .inr (.inr h)
theorem dbg {x : Str} (h : notDbg x = true) : (x == ("__debug__" : Str)) = false ∧ (x == ("__classdict__" : Str)) = false := by
  unfold notDbg at h
  simpa using h
theorem star_cons {e : Expr} {es : List Expr} {env : PySem.Env} (h : notStar e = true) : starEach (e :: es) env = (false, eval e env) :: starEach es env := by
  cases e <;> first | rfl | (simp [notStar] at h)

/-- a name, as a value that others may hold -/
theorem pe_nm (g : Gd P ct X k) {i : Nat} {x : Str} {pos : Pos} (h : (ct.N[i]? == some x && (isVis ct.sc x && notDbg x)) = true) : PE X (.Name x pos) (tVar i) := by
  rw [Bool.and_eq_true, Bool.and_eq_true] at h
  obtain ⟨h1, h2, h3⟩ := h
  obtain ⟨d1, d2⟩ := dbg h3
  exact pe_var (by rw [g.hN]; exact beq_iff_eq.mp h1) (g.vis h2) d1 d2
theorem snd_var {i : Nat} {e : Expr} (h : PE X e (tVar i)) : PE X e (tE P X.K (.var i)) := h.imp fun σ H Q q => by
  obtain ⟨O0, H0, O, ρ, R, S, es, hv, q⟩ := q
  obtain ⟨d, hd, r⟩ := wlift (show wM.lift (getV ρ i) R by unfold Pm.ev ev at hv; exact hv)
  obtain ⟨v, e1, b, f⟩ := S.var hd
  exact ⟨v, e1, q d v H r (Ext.refl S.wok) ⟨f (es i (by simp [esc])), fun z => by cases z⟩⟩
theorem sndB_var {i : Nat} {e : Expr} (h : PE X e (tVar i)) : PE X e (tB P X.K (.var i)) := h.imp fun σ H Q q => by
  obtain ⟨O0, H0, O, ρ, R, S, es, hv, q⟩ := q
  obtain ⟨d, hd, r⟩ := wlift (show wM.lift (getV ρ i) R by unfold Pm.ev ev at hv; exact hv)
  obtain ⟨v, e1, b, f⟩ := S.var hd
  refine ⟨v, e1, q d v H r (Ext.refl S.wok) b fun p ds z1 z2 z3 => ?_⟩
  subst z1
  subst z2
  rcases getV_sh hd with z | z
  · obtain ⟨v', e2, r⟩ := S.slot i _ z
    rw [e1] at e2
    cases e2
    cases r with | lst hs _ => exact absurd z3 (hid_out hs)
  · exact ⟨i, _, z, e1⟩
def E.isVar : E → Bool
  | .var _ => true
  | _ => false
theorem esc_eq {c : E} (h : c.isVar = false) : esc true c = esc false c := by
  cases c <;> first | rfl | (simp [E.isVar] at h)
/-- only looked at -/
theorem snd_B (g : Gd P ct X k) {c : E} {e : Expr} (hc : chkE ct c e = true) (h : PE X e (tE P X.K c)) : PE X e (tB P X.K c) := by
  cases hv : c.isVar with
  | true =>
    cases c <;> simp [E.isVar] at hv
    rename_i i
    unfold chkE at hc
    cases hn : vName e with
    | none => rw [hn] at hc; cases hc
    | some x =>
      rw [hn] at hc
      obtain ⟨p, rfl⟩ := vName_eq hn
      exact sndB_var (pe_nm g hc)
  | false =>
    refine h.imp fun σ H Q q => ?_
    obtain ⟨O0, H0, O, ρ, R, S, es, ev, q⟩ := q
    exact ⟨O0, H0, O, ρ, R, S, by rw [← esc_eq hv]; exact es, ev, fun d v H' hr he r => q d v H' hr he (.inl r.1) fun p ds z1 z2 z3 => by subst z1; subst z2; cases r.1 with | lst hs _ => exact absurd z3 (hid_out hs)⟩
/-- a constant -/
theorem snd_const {v : V} {d : D} {c : E} {e : Expr} (h : PE X e (tC v)) (hv : ∀ ρ, P.ev c ρ = fun R => R d) (hr : ∀ H, Rp X.K H v d) (hf : c.fresh = false) : PE X e (tE P X.K c) := h.imp fun σ H Q q => by
  obtain ⟨O0, H0, O, ρ, R, S, es, ev, q⟩ := q
  rw [hv] at ev
  exact q d v H ev (Ext.refl S.wok) ⟨hr _, fun z => by rw [hf] at z; cases z⟩
theorem snd_gl (g : Gd P ct X k) {n : Nat} {x : Str} {pos : Pos} (h1 : ct.gl.contains (n, x) = true) (h2 : isGl ct x = true) (h3 : notDbg x = true) : PE X (.Name x pos) (tE P X.K (.gl n)) := by
  obtain ⟨v, u, d, hm, r, hC, hr⟩ := g.gls n x (by simpa using h1)
  refine (pe_glob (g.gl h2) hm r (dbg h3).1).imp fun σ H Q q => ?_
  obtain ⟨O0, H0, O, ρ, R, S, es, ev, q⟩ := q
  obtain ⟨d', hd, rr⟩ := wlift (show wM.lift (P.C n) R by unfold Pm.ev PV.ev at ev; exact ev)
  rw [hC] at hd
  cases hd
  exact q d v H rr (Ext.refl S.wok) ⟨hr _, fun z => by cases z⟩

section
variable {a b c' : E} {x y z : Expr} {pos : Pos}
/-- two operands, then an operation by values that gives a datum -/
theorem two {f : Bool} {gg : D → D → Option D} {c : E} {r : R2} (hr : ∀ x y H Q, rD2 f X.K gg x y H Q → r x y H Q) (he : esc false c = esc true a ++ esc true b) (hf : c.fresh = true → f = true)
    (hv : ∀ ρ R, P.ev c ρ R → P.ev a ρ fun u => P.ev b ρ fun v => wM.lift (gg u v) R) {σ : L2.St} {H : Hp} {Q : VK} (q : tE P X.K c σ H Q) : tOp r (tB P X.K a) (tB P X.K b) σ H Q := by
  obtain ⟨O0, H0, O, ρ, R, S, es, ev, q⟩ := q
  rw [he] at es
  refine ⟨O0, H0, O, ρ, _, S, noOw_l es, hv ρ R ev, fun d u H1 hd e1 ba _ => ⟨O0, H0, O, ρ, _, S.ext e1, noOw_r es, hd, fun d' u' H2 hd' e2 bb _ => ?_⟩⟩
  obtain ⟨w, hw, hR⟩ := wlift hd'
  have S2 := (S.ext e1).ext e2
  refine hr _ _ _ _ ⟨O, d, d', w, S2.dom, ba.ext e2 S.wo e1.2, bb, hw, fun v H3 le rp fr => q w v H3 hR ((e1.trans e2).trans (Ext.of_le S2.wok le)) ⟨rp, fun z1 z2 => ?_⟩⟩
  exact (fr (hf z1) z2).back (e1.trans e2)
theorem snd_bin {o : Op2} (ha : PE X x (tB P X.K a)) (hb : PE X y (tB P X.K b)) : PE X (.BinOp x (binOp o) y pos) (tE P X.K (.bin o a b)) :=
  (pe_op (op_bin o) ha hb).imp fun σ H Q q => two (f := true) (gg := dBin o) (fun _ _ _ _ h => h) (by simp [esc]) (fun _ => rfl) (fun ρ R h => by unfold Pm.ev PV.ev at h; exact h) q
theorem snd_ix (ha : PE X x (tB P X.K a)) (hb : PE X y (tB P X.K b)) (hs : vSli y = none) : PE X (.Subscript x y pos) (tE P X.K (.ix a b)) :=
  (pe_ix op_ix ha hb (fun _ _ => by cases y <;> first | rfl | (simp [vSli] at hs))).imp fun σ H Q q => two (f := false) (gg := dIx) (fun _ _ _ _ h => h) (by simp [esc]) (fun h => by cases h) (fun ρ R h => by unfold Pm.ev PV.ev at h; exact h) q
theorem nomk {op : CmpOp} (h : notSet y = true) : behindInMarks op y = false := by
  cases y <;> first | rfl | (simp [notSet] at h)
/-- two operands, then a comparison -/
theorem twoC {gg : D → D → Option Bool} {ρ : Env} {R : Bool → Prop} {σ : L2.St} {H H0 : Hp} {O0 O : List Addr} {Q : VK} (S : Sim X.K P.w P.iw O0 H0 O H σ ρ) (es : NoOw (esc true a ++ esc true b) ρ)
    (ev : P.ev a ρ fun u => P.ev b ρ fun v => wM.lift (gg u v) R) (q : ∀ t H', R t → Ext P.w H H' → Q (.bl t) H') : tOp (rC2 X.K gg) (tB P X.K a) (tB P X.K b) σ H Q := by
  refine ⟨O0, H0, O, ρ, _, S, noOw_l es, ev, fun d u H1 hd e1 ba _ => ⟨O0, H0, O, ρ, _, S.ext e1, noOw_r es, hd, fun d' u' H2 hd' e2 bb _ => ?_⟩⟩
  obtain ⟨w, hw, hR⟩ := wlift hd'
  exact ⟨O, d, d', w, ba.ext e2 S.wo e1.2, bb, hw, q w H2 hR (e1.trans e2)⟩
theorem cmp_ev {c : Cm} {ρ : Env} {R : D → Prop} (h : P.ev (.cmp c a b) ρ R) : P.ev a ρ fun u => P.ev b ρ fun v => wM.lift (dCmp c u v) fun t => R (.bool t) := by
  unfold Pm.ev PV.ev at h
  have e : (fun u => PV.ev wM P.C P.F P.G b ρ fun v => wM.lift ((dCmp c u v).map PyData.bool) R) = fun u => PV.ev wM P.C P.F P.G b ρ fun v => wM.lift (dCmp c u v) fun t => R (.bool t) := by
    funext u
    exact congrArg (PV.ev wM P.C P.F P.G b ρ) (funext fun v => by cases dCmp c u v <;> rfl)
  have h' : PV.ev wM P.C P.F P.G a ρ (fun u => PV.ev wM P.C P.F P.G b ρ fun v => wM.lift ((dCmp c u v).map PyData.bool) R) := h
  rw [e] at h'
  exact h'
theorem snd_cmp (hr : Room k X.A) {c : Cm} (ha : PE X x (tB P X.K a)) (hb : PE X y (tB P X.K b)) (hs : notSet y = true) : PE X (.Compare x [cmOp c] [y] pos) (tE P X.K (.cmp c a b)) :=
  (pe_cmpR (op_cmp hr c) ha hb (nomk hs)).imp fun σ H Q q => by
    obtain ⟨O0, H0, O, ρ, R, S, es, ev, q⟩ := q
    exact twoC S (by simpa [esc] using es) (cmp_ev ev) fun t H' hR e => q (.bool t) (.bl t) H' hR e ⟨.bl t, fun _ z => by cases z⟩
theorem sndT_cmp (hr : Room k X.A) {c : Cm} (ha : PE X x (tB P X.K a)) (hb : PE X y (tB P X.K b)) (hs : notSet y = true) : PT X (.Compare x [cmOp c] [y] pos) (tT P X.K (.cmp c a b)) :=
  (pt_cmpR (op_cmp hr c) ha hb (nomk hs)).imp fun σ H Q q => by
    obtain ⟨O0, H0, O, ρ, R, S, es, ev, q⟩ := q
    refine twoC S (by simpa [esc] using es) (cmp_ev ev) fun t H' hR e => ?_
    obtain ⟨b, hb, q⟩ := q (.bool t) H' hR e
    cases hb
    exact ⟨_, rfl, q⟩
end
end
end PV

set_option maxHeartbeats 4000000
/-! PV: the small forms of expressions. -/
namespace PV
open PySem L2

theorem wbool {β : Type} {o : Option Bool} {f : Bool → W β} {R : β → Prop} (h : wM.bind (wM.lift o) f R) : ∃ b, o = some b ∧ f b R := wlift h
theorem wbind {α β : Type} {o : Option α} {f : α → W β} {R : β → Prop} (h : wM.bind (wM.lift o) f R) : ∃ b, o = some b ∧ f b R := wlift h
theorem wmap {α β : Type} {o : Option α} {g : α → β} {R : β → Prop} (h : wM.lift (o.map g) R) : ∃ b, o = some b ∧ R (g b) := by
  cases o with
  | none => exact False.elim h
  | some b => exact ⟨b, rfl, h⟩
theorem bool_some {d : D} {b : Bool} (h : bool? d = some b) : d = .bool b := by
  cases d <;> simp [bool?] at h
  subst h
  rfl
theorem int_some {d : D} {b : Int} (h : int? d = some b) : d = .int b := by
  cases d <;> simp [int?] at h
  subst h
  rfl
theorem noOw_B {c : E} {ρ : Env} (h : NoOw (esc false c) ρ) : NoOw (esc true c) ρ := by
  cases hv : c.isVar with
  | true =>
    cases c <;> simp [E.isVar] at hv
    intro i hi
    simp [esc] at hi
  | false =>
    rw [esc_eq hv]
    exact h
section
variable {P : Pm} {ct : Ct} {X : Cx} {k : Nat} {a b c d : E} {x y z u : Expr} {pos : Pos}
/-- as a test -/
theorem pt_of_B (h : PE X x (tB P X.K a)) (hn : ∀ whole, isTrue x X.env whole = (do let v ← whole; standAt x.pos; holding [v] (truthy v))) : PT X x (tT P X.K a) := by
  refine ⟨fun pins s σ H Q I q => ?_⟩
  refine (pt_val h hn).run pins s σ H Q I ?_
  obtain ⟨O0, H0, O, ρ, R, S, es, ev, q⟩ := q
  refine ⟨O0, H0, O, ρ, R, S, es, ev, fun d v H' hd e ba _ => ?_⟩
  obtain ⟨b, hb, q⟩ := q d H' hd e
  rw [bool_some hb] at ba
  exact ⟨b, ba.bl, q⟩
theorem notTest_eq {env : PySem.Env} (h : notTest x = true) (whole : Sem Value) : isTrue x env whole = (do let v ← whole; standAt x.pos; holding [v] (truthy v)) := by
  cases x with
  | UnaryOp op y p =>
    cases op with
    | Not => cases h
    | _ => rfl
  | BoolOp _ _ _ => cases h
  | IfExp _ _ _ _ => cases h
  | Compare _ _ _ _ => cases h
  | _ => rfl
theorem snd_neg (ha : PE X x (tB P X.K a)) : PE X (.UnaryOp .USub x pos) (tE P X.K (.neg a)) :=
  (pe_un un_neg ha).imp fun σ H Q q => by
    obtain ⟨O0, H0, O, ρ, R, S, es, ev, q⟩ := q
    have ev : P.ev a ρ fun x => wM.lift ((int? x).map fun i => PyData.int (-i)) R := by unfold Pm.ev PV.ev at ev; exact ev
    refine ⟨O0, H0, O, ρ, _, S, by simpa [esc] using es, ev, fun d v H' hd e ba _ => ?_⟩
    obtain ⟨i, hi, hR⟩ := wmap hd
    rw [int_some hi] at ba
    exact ⟨i, ba.int, q _ _ H' hR e ⟨.int _, fun _ z => by cases z⟩⟩
theorem ev_not {ρ : Env} {R : D → Prop} (ev : P.ev (.not a) ρ R) : P.ev a ρ fun x => ∃ b, bool? x = some b ∧ R (.bool (!b)) := by
  have h : P.ev a ρ fun x => wM.lift ((bool? x).map fun b => PyData.bool (!b)) R := by unfold Pm.ev PV.ev at ev; exact ev
  have e : (fun x => wM.lift ((bool? x).map fun b => PyData.bool (!b)) R) = fun x => ∃ b, bool? x = some b ∧ R (.bool (!b)) := by
    funext x
    cases hb : bool? x with
    | none => exact propext ⟨fun z => False.elim z, fun ⟨b, e, _⟩ => by cases e⟩
    | some b => exact propext ⟨fun z => ⟨b, rfl, z⟩, fun ⟨c, e, z⟩ => by cases e; exact z⟩
  rw [e] at h
  exact h
theorem snd_not (ha : PE X x (tB P X.K a)) : PE X (.UnaryOp .Not x pos) (tE P X.K (.not a)) :=
  (pe_not ha).imp fun σ H Q q => by
    obtain ⟨O0, H0, O, ρ, R, S, es, ev, q⟩ := q
    refine ⟨O0, H0, O, ρ, _, S, by simpa [esc] using es, ev_not ev, fun d v H' hd e ba _ => ?_⟩
    obtain ⟨i, hi, hR⟩ := hd
    rw [bool_some hi] at ba
    exact ⟨i, ba.bl, q _ _ H' hR e ⟨.bl _, fun _ z => by cases z⟩⟩
theorem sndT_not (ha : PT X x (tT P X.K a)) : PT X (.UnaryOp .Not x pos) (tT P X.K (.not a)) :=
  (pt_not ha).imp fun σ H Q q => by
    obtain ⟨O0, H0, O, ρ, R, S, es, ev, q⟩ := q
    refine ⟨O0, H0, O, ρ, _, S, by simpa [esc] using es, ev_not ev, fun d H' hd e => ?_⟩
    obtain ⟨i, hi, hR⟩ := hd
    obtain ⟨b, hb, q⟩ := q _ H' hR e
    cases hb
    exact ⟨i, hi, q⟩
/-! and, or -/
theorem ev_and {ρ : Env} {R : D → Prop} (ev : P.ev (.and a b) ρ R) : P.ev a ρ fun x => ∃ t, bool? x = some t ∧ if t = true then P.ev b ρ R else R (.bool false) := by
  have h : P.ev a ρ fun x => wM.bind (wM.lift (bool? x)) (fun t => if t = true then PV.ev wM P.C P.F P.G b ρ else wM.pure (.bool false)) R := by unfold Pm.ev PV.ev at ev; exact ev
  have e : (fun x => wM.bind (wM.lift (bool? x)) (fun t => if t = true then PV.ev wM P.C P.F P.G b ρ else wM.pure (.bool false)) R) = fun x => ∃ t, bool? x = some t ∧ if t = true then P.ev b ρ R else R (.bool false) := by
    funext x
    cases hb : bool? x with
    | none => exact propext ⟨fun z => False.elim z, fun ⟨b, e, _⟩ => by cases e⟩
    | some b => exact propext ⟨fun z => ⟨b, rfl, by cases b <;> exact z⟩, fun ⟨c, e, z⟩ => by cases e; cases b <;> exact z⟩
  rw [e] at h
  exact h
theorem ev_or {ρ : Env} {R : D → Prop} (ev : P.ev (.or a b) ρ R) : P.ev a ρ fun x => ∃ t, bool? x = some t ∧ if t = true then R (.bool true) else P.ev b ρ R := by
  have h : P.ev a ρ fun x => wM.bind (wM.lift (bool? x)) (fun t => if t = true then wM.pure (.bool true) else PV.ev wM P.C P.F P.G b ρ) R := by unfold Pm.ev PV.ev at ev; exact ev
  have e : (fun x => wM.bind (wM.lift (bool? x)) (fun t => if t = true then wM.pure (.bool true) else PV.ev wM P.C P.F P.G b ρ) R) = fun x => ∃ t, bool? x = some t ∧ if t = true then R (.bool true) else P.ev b ρ R := by
    funext x
    cases hb : bool? x with
    | none => exact propext ⟨fun z => False.elim z, fun ⟨b, e, _⟩ => by cases e⟩
    | some b => exact propext ⟨fun z => ⟨b, rfl, by cases b <;> exact z⟩, fun ⟨c, e, z⟩ => by cases e; cases b <;> exact z⟩
  rw [e] at h
  exact h
theorem ev_ife {t : E} {ρ : Env} {R : D → Prop} (ev : P.ev (.ife t a b) ρ R) : P.ev t ρ fun x => ∃ t, bool? x = some t ∧ if t = true then P.ev a ρ R else P.ev b ρ R := by
  have h : P.ev t ρ fun x => wM.bind (wM.lift (bool? x)) (fun t => if t = true then PV.ev wM P.C P.F P.G a ρ else PV.ev wM P.C P.F P.G b ρ) R := by unfold Pm.ev PV.ev at ev; exact ev
  have e : (fun x => wM.bind (wM.lift (bool? x)) (fun t => if t = true then PV.ev wM P.C P.F P.G a ρ else PV.ev wM P.C P.F P.G b ρ) R) = fun x => ∃ t, bool? x = some t ∧ if t = true then P.ev a ρ R else P.ev b ρ R := by
    funext x
    cases hb : bool? x with
    | none => exact propext ⟨fun z => False.elim z, fun ⟨b, e, _⟩ => by cases e⟩
    | some b => exact propext ⟨fun z => ⟨b, rfl, by cases b <;> exact z⟩, fun ⟨c, e, z⟩ => by cases e; cases b <;> exact z⟩
  rw [e] at h
  exact h
theorem snd_and {rest : List Expr} (ha : PE X x (tE P X.K a)) (hb : PE X (.BoolOp .And (y :: rest) pos) (tE P X.K b)) : PE X (.BoolOp .And (x :: y :: rest) pos) (tE P X.K (.and a b)) :=
  (pe_and ha hb).imp fun σ H Q q => by
    obtain ⟨O0, H0, O, ρ, R, S, es, ev, q⟩ := q
    have es : NoOw (esc false a ++ esc false b) ρ := by simpa [esc] using es
    refine ⟨O0, H0, O, ρ, _, S, noOw_l es, ev_and ev, fun d v H' hd e ba => ?_⟩
    obtain ⟨t, ht, hR⟩ := hd
    obtain ⟨r, _⟩ := ba
    rw [bool_some ht] at r
    cases r
    refine ⟨t, rfl, ?_⟩
    cases t with
    | false => exact q _ _ H' hR e ⟨.bl _, fun z => by cases z⟩
    | true => exact ⟨O0, H0, O, ρ, R, S.ext e, noOw_r es, hR, fun d v H2 hd e2 r => q d v H2 hd (e.trans e2) ⟨r.1, fun z => by cases z⟩⟩
theorem snd_or {rest : List Expr} (ha : PE X x (tE P X.K a)) (hb : PE X (.BoolOp .Or (y :: rest) pos) (tE P X.K b)) : PE X (.BoolOp .Or (x :: y :: rest) pos) (tE P X.K (.or a b)) :=
  (pe_or ha hb).imp fun σ H Q q => by
    obtain ⟨O0, H0, O, ρ, R, S, es, ev, q⟩ := q
    have es : NoOw (esc false a ++ esc false b) ρ := by simpa [esc] using es
    refine ⟨O0, H0, O, ρ, _, S, noOw_l es, ev_or ev, fun d v H' hd e ba => ?_⟩
    obtain ⟨t, ht, hR⟩ := hd
    obtain ⟨r, _⟩ := ba
    rw [bool_some ht] at r
    cases r
    refine ⟨t, rfl, ?_⟩
    cases t with
    | true => exact q _ _ H' hR e ⟨.bl _, fun z => by cases z⟩
    | false => exact ⟨O0, H0, O, ρ, R, S.ext e, noOw_r es, hR, fun d v H2 hd e2 r => q d v H2 hd (e.trans e2) ⟨r.1, fun z => by cases z⟩⟩
theorem sndT_and {rest : List Expr} (ha : PT X x (tT P X.K a)) (hb : PW X (.BoolOp .And (y :: rest) pos) (tT P X.K b)) : PW X (.BoolOp .And (x :: y :: rest) pos) (tT P X.K (.and a b)) :=
  (pw_and ha hb).imp fun σ H Q q => by
    obtain ⟨O0, H0, O, ρ, R, S, es, ev, q⟩ := q
    have es : NoOw (esc false a ++ esc false b) ρ := by simpa [esc] using es
    refine ⟨O0, H0, O, ρ, _, S, noOw_B (noOw_l es), ev_and ev, fun d H' hd e => ?_⟩
    obtain ⟨t, ht, hR⟩ := hd
    refine ⟨t, ht, ?_⟩
    cases t with
    | false =>
      obtain ⟨b, hb, q⟩ := q _ H' hR e
      cases hb
      exact q
    | true => exact ⟨O0, H0, O, ρ, R, S.ext e, noOw_B (noOw_r es), hR, fun d H2 hd e2 => q d H2 hd (e.trans e2)⟩
theorem sndT_or {rest : List Expr} (ha : PT X x (tT P X.K a)) (hb : PW X (.BoolOp .Or (y :: rest) pos) (tT P X.K b)) : PW X (.BoolOp .Or (x :: y :: rest) pos) (tT P X.K (.or a b)) :=
  (pw_or ha hb).imp fun σ H Q q => by
    obtain ⟨O0, H0, O, ρ, R, S, es, ev, q⟩ := q
    have es : NoOw (esc false a ++ esc false b) ρ := by simpa [esc] using es
    refine ⟨O0, H0, O, ρ, _, S, noOw_B (noOw_l es), ev_or ev, fun d H' hd e => ?_⟩
    obtain ⟨t, ht, hR⟩ := hd
    refine ⟨t, ht, ?_⟩
    cases t with
    | true =>
      obtain ⟨b, hb, q⟩ := q _ H' hR e
      cases hb
      exact q
    | false => exact ⟨O0, H0, O, ρ, R, S.ext e, noOw_B (noOw_r es), hR, fun d H2 hd e2 => q d H2 hd (e.trans e2)⟩
theorem pw_of {o : BoolOp} {vs : List Expr} {t : TT} (h : PT X (.BoolOp o vs pos) t) : PW X (.BoolOp o vs pos) t := ⟨fun wh pins s σ H Q I q => by
  have e : isTrue (.BoolOp o vs pos) X.env wh = isTrue (.BoolOp o vs pos) X.env (eval (.BoolOp o vs pos) X.env) := rfl
  rw [e]
  exact h.run pins s σ H Q I q⟩
theorem snd_ife {t : E} (ht : PT X z (tT P X.K t)) (ha : PE X x (tE P X.K a)) (hb : PE X y (tE P X.K b)) : PE X (.IfExp z x y pos) (tE P X.K (.ife t a b)) :=
  (pe_ifExp ht ha hb).imp fun σ H Q q => by
    obtain ⟨O0, H0, O, ρ, R, S, es, ev, q⟩ := q
    have es : NoOw (esc true t ++ (esc false a ++ esc false b)) ρ := by simpa [esc] using es
    refine ⟨O0, H0, O, ρ, _, S, noOw_l es, ev_ife ev, fun d H' hd e => ?_⟩
    obtain ⟨t, ht, hR⟩ := hd
    refine ⟨t, ht, ?_⟩
    cases t with
    | true => exact ⟨O0, H0, O, ρ, R, S.ext e, noOw_l (noOw_r es), hR, fun d v H2 hd e2 r => q d v H2 hd (e.trans e2) ⟨r.1, fun z => by cases z⟩⟩
    | false => exact ⟨O0, H0, O, ρ, R, S.ext e, noOw_r (noOw_r es), hR, fun d v H2 hd e2 r => q d v H2 hd (e.trans e2) ⟨r.1, fun z => by cases z⟩⟩
theorem pt_ife {tA tB' tC' : TT} (ht : PT X z tA) (ha : PT X x tB') (hb : PT X y tC') : PT X (.IfExp z x y pos) (fun σ H Q => tA σ H fun t H1 => if t = true then tB' σ H1 Q else tC' σ H1 Q) := by
  refine ⟨fun pins s σ H Q I q => ?_⟩
  have e : ∀ wh, isTrue (.IfExp z x y pos) X.env wh = (do if ← isTrue z X.env (eval z X.env) then isTrue x X.env (eval x X.env) else isTrue y X.env (eval y X.env)) := fun wh => rfl
  rw [e]
  refine wpAny_bind (thn (ht.run pins s σ H _ I q) fun t s1 ⟨H1, I1, q1⟩ => ?_)
  cases t with
  | true => exact ha.run pins s1 σ H1 Q I1 q1
  | false => exact hb.run pins s1 σ H1 Q I1 q1
theorem sndT_ife {t : E} (ht : PT X z (tT P X.K t)) (ha : PT X x (tT P X.K a)) (hb : PT X y (tT P X.K b)) : PT X (.IfExp z x y pos) (tT P X.K (.ife t a b)) :=
  (pt_ife ht ha hb).imp fun σ H Q q => by
    obtain ⟨O0, H0, O, ρ, R, S, es, ev, q⟩ := q
    have es : NoOw (esc true t ++ (esc false a ++ esc false b)) ρ := by simpa [esc] using es
    refine ⟨O0, H0, O, ρ, _, S, noOw_l es, ev_ife ev, fun d H' hd e => ?_⟩
    obtain ⟨t, ht, hR⟩ := hd
    refine ⟨t, ht, ?_⟩
    cases t with
    | true => exact ⟨O0, H0, O, ρ, R, S.ext e, noOw_B (noOw_l (noOw_r es)), hR, fun d H2 hd e2 => q d H2 hd (e.trans e2)⟩
    | false => exact ⟨O0, H0, O, ρ, R, S.ext e, noOw_B (noOw_r (noOw_r es)), hR, fun d H2 hd e2 => q d H2 hd (e.trans e2)⟩
/-! a op b op c -/
theorem ev_chain {c1 c2 : Cm} {ρ : Env} {R : D → Prop} (ev : P.ev (.chain c1 c2 a b d) ρ R) : P.ev a ρ fun x => P.ev b ρ fun y => ∃ t, dCmp c1 x y = some t ∧ if t = true then P.ev d ρ fun z => ∃ t, dCmp c2 y z = some t ∧ R (.bool t) else R (.bool false) := by
  have h : P.ev a ρ fun x => P.ev b ρ fun y => wM.bind (wM.lift (dCmp c1 x y)) (fun t => if t = true then wM.bind (PV.ev wM P.C P.F P.G d ρ) (fun z => wM.lift ((dCmp c2 y z).map .bool)) else wM.pure (.bool false)) R := by unfold Pm.ev PV.ev at ev; exact ev
  have e2 : ∀ y, (fun z => wM.lift ((dCmp c2 y z).map PyData.bool) R) = fun z => ∃ t, dCmp c2 y z = some t ∧ R (.bool t) := fun y => by
    funext x
    cases hb : dCmp c2 y x with
    | none => exact propext ⟨fun z => False.elim z, fun ⟨b, e, _⟩ => by cases e⟩
    | some b => exact propext ⟨fun z => ⟨b, rfl, z⟩, fun ⟨c, e, z⟩ => by cases e; exact z⟩
  have e : (fun x => P.ev b ρ fun y => wM.bind (wM.lift (dCmp c1 x y)) (fun t => if t = true then wM.bind (PV.ev wM P.C P.F P.G d ρ) (fun z => wM.lift ((dCmp c2 y z).map .bool)) else wM.pure (.bool false)) R) =
      fun x => P.ev b ρ fun y => ∃ t, dCmp c1 x y = some t ∧ if t = true then P.ev d ρ fun z => ∃ t, dCmp c2 y z = some t ∧ R (.bool t) else R (.bool false) := by
    funext x
    refine congrArg (P.ev b ρ) (funext fun y => ?_)
    rw [← e2 y]
    cases hb : dCmp c1 x y with
    | none => exact propext ⟨fun z => False.elim z, fun ⟨b, e, _⟩ => by cases e⟩
    | some b => exact propext ⟨fun z => ⟨b, rfl, by cases b <;> exact z⟩, fun ⟨c, e, z⟩ => by cases e; cases b <;> exact z⟩
  rw [e] at h
  exact h
theorem chain_q {c1 c2 : Cm} {σ : L2.St} {H H0 : Hp} {O0 O : List Addr} {Q : VK} {ρ : Env} {R : D → Prop} (S : Sim X.K P.w P.iw O0 H0 O H σ ρ) (es : NoOw (esc true a ++ (esc true b ++ esc true d)) ρ) (ev : P.ev (.chain c1 c2 a b d) ρ R)
    (q : ∀ t H', R (.bool t) → Ext P.w H H' → Q (.bl t) H') : tChain (rC2 X.K (dCmp c1)) (rC2 X.K (dCmp c2)) (tB P X.K a) (tB P X.K b) (tB P X.K d) σ H Q := by
  refine ⟨O0, H0, O, ρ, _, S, noOw_l es, ev_chain ev, fun d1 v1 H1 hd e1 b1 _ => ⟨O0, H0, O, ρ, _, S.ext e1, noOw_l (noOw_r es), hd, fun d2 v2 H2 hd e2 b2 _ => ?_⟩⟩
  obtain ⟨t, ht, hR⟩ := hd
  refine ⟨O, d1, d2, t, b1.ext e2 S.wo e1.2, b2, ht, t, rfl, ?_⟩
  cases t with
  | false => exact q false H2 hR (e1.trans e2)
  | true =>
    refine ⟨O0, H0, O, ρ, _, (S.ext e1).ext e2, noOw_r (noOw_r es), hR, fun d3 v3 H3 hd e3 b3 _ => ?_⟩
    obtain ⟨t, ht, hR⟩ := hd
    exact ⟨O, d2, d3, t, b2.ext e3 S.wo e2.2, b3, ht, q t H3 hR ((e1.trans e2).trans e3)⟩
theorem lastM {o o' : CmpOp} (h : notSet z = true) : lastMarks [o, o'] [y, z] = false := by
  show behindInMarks o' z = false
  exact nomk h
theorem snd_chain (hr : Room k X.A) {c1 c2 : Cm} (ha : PE X x (tB P X.K a)) (hb : PE X y (tB P X.K b)) (hd : PE X z (tB P X.K d)) (hs : notSet z = true) : PE X (.Compare x [cmOp c1, cmOp c2] [y, z] pos) (tE P X.K (.chain c1 c2 a b d)) :=
  (pe_chain (op_cmp hr c1) (op_cmp hr c2) ha hb hd (lastM hs)).imp fun σ H Q q => by
    obtain ⟨O0, H0, O, ρ, R, S, es, ev, q⟩ := q
    exact chain_q S (by simpa [esc] using es) ev fun t H' hR e => q _ _ H' hR e ⟨.bl t, fun _ z => by cases z⟩
theorem sndT_chain (hr : Room k X.A) {c1 c2 : Cm} (ha : PE X x (tB P X.K a)) (hb : PE X y (tB P X.K b)) (hd : PE X z (tB P X.K d)) (hs : notSet z = true) : PT X (.Compare x [cmOp c1, cmOp c2] [y, z] pos) (tT P X.K (.chain c1 c2 a b d)) :=
  (pt_chain (op_cmp hr c1) (op_cmp hr c2) ha hb hd (lastM hs)).imp fun σ H Q q => by
    obtain ⟨O0, H0, O, ρ, R, S, es, ev, q⟩ := q
    refine chain_q S (by simpa [esc] using es) ev fun t H' hR e => ?_
    obtain ⟨b, hb, q⟩ := q _ H' hR e
    cases hb
    exact ⟨_, rfl, q⟩
/-! a op b op c op d -/
def tChain3 (r r' r2 : R2) (ta tb tc td : TE) : TE := fun σ H Q => ta σ H fun x H1 => tb σ H1 fun y H2 => r x y H2 fun z H3 => ∃ k, z = .bl k ∧
  (if k = true then tc σ H3 fun w' H4 => r' y w' H4 fun z2 H5 => ∃ k2, z2 = .bl k2 ∧ (if k2 = true then td σ H5 fun w2 H6 => r2 w' w2 H6 Q else Q (.bl false) H5) else Q (.bl false) H3)
theorem pe_chain3 {op op' op2 : CmpOp} {r r' r2 : R2} {xa xb xc xd : Expr} {ta tb tc td : TE} {pos : Pos} (ho : OpR X (compareOp op) r) (ho' : OpR X (compareOp op') r') (ho2 : OpR X (compareOp op2) r2) (ha : PE X xa ta) (hb : PE X xb tb) (hc : PE X xc tc) (hd : PE X xd td)
    (hm : lastMarks [op, op', op2] [xb, xc, xd] = false) : PE X (.Compare xa [op, op', op2] [xb, xc, xd] pos) (tChain3 r r' r2 ta tb tc td) := by
  refine ⟨fun pins s σ H Q I h => ?_⟩
  refine PyProof.Rows.Compare_chain (thn (ha.run pins s σ H _ I h) fun v s1 ⟨x, H1, I1, r1, q1⟩ => PyProof.Rows.chain_link (thn (hb.run pins s1 σ H1 _ I1 q1) fun u s2 ⟨y, H2, I2, r2, q2⟩ =>
    thn (ho pins s2 σ H2 x y v u _ I2 r1 r2 q2) fun d s3 ⟨z, H3, I3, r3, k, e, q3⟩ => ?_)) hm
  subst e
  cases r3
  refine wpAny_truthy_bool ?_
  cases k with
  | false => exact PyProof.Rows.ite_ff ⟨.bl false, H3, I3, rfl, q3⟩
  | true =>
    refine PyProof.Rows.ite_tt (PyProof.Rows.chain_link (thn (hc.run pins s3 σ H3 _ I3 q3) fun w' s4 ⟨z', H4, I4, r4, q4⟩ => thn (ho' pins s4 σ H4 y z' u w' _ I4 r2 r4 q4) fun d2 s5 ⟨z2, H5, I5, r5, k2, e2, q5⟩ => ?_))
    subst e2
    cases r5
    refine wpAny_truthy_bool ?_
    cases k2 with
    | false => exact PyProof.Rows.ite_ff ⟨.bl false, H5, I5, rfl, q5⟩
    | true => exact PyProof.Rows.ite_tt (PyProof.Rows.chain_last (thn (hd.run pins s5 σ H5 _ I5 q5) fun w2 s6 ⟨z3, H6, I6, r6, q6⟩ => ho2 pins s6 σ H6 z' z3 w' w2 Q I6 r4 r6 q6))
theorem pt_chain3 {op op' op2 : CmpOp} {r r' r2 : R2} {xa xb xc xd : Expr} {ta tb tc td : TE} {pos : Pos} (ho : OpR X (compareOp op) r) (ho' : OpR X (compareOp op') r') (ho2 : OpR X (compareOp op2) r2) (ha : PE X xa ta) (hb : PE X xb tb) (hc : PE X xc tc) (hd : PE X xd td)
    (hm : lastMarks [op, op', op2] [xb, xc, xd] = false) : PT X (.Compare xa [op, op', op2] [xb, xc, xd] pos) (tTest (tChain3 r r' r2 ta tb tc td)) := by
  refine ⟨fun pins s σ H Q I h => ?_⟩
  refine PyProof.Rows.isTrue_chain (thn (ha.run pins s σ H _ I h) fun v s1 ⟨x, H1, I1, r1, q1⟩ => PyProof.Rows.test_link (thn (hb.run pins s1 σ H1 _ I1 q1) fun u s2 ⟨y, H2, I2, r2, q2⟩ =>
    thn (ho pins s2 σ H2 x y v u _ I2 r1 r2 q2) fun d s3 ⟨z, H3, I3, r3, k, e, q3⟩ => ?_)) hm
  subst e
  cases r3
  refine wpAny_truthy_bool ?_
  cases k with
  | false =>
    obtain ⟨k', e', q'⟩ := q3
    cases e'
    exact PyProof.Rows.ite_ff ⟨H3, I3, q'⟩
  | true =>
    refine PyProof.Rows.ite_tt (PyProof.Rows.test_link (thn (hc.run pins s3 σ H3 _ I3 q3) fun w' s4 ⟨z', H4, I4, r4, q4⟩ => thn (ho' pins s4 σ H4 y z' u w' _ I4 r2 r4 q4) fun d2 s5 ⟨z2, H5, I5, r5, k2, e2, q5⟩ => ?_))
    subst e2
    cases r5
    refine wpAny_truthy_bool ?_
    cases k2 with
    | false =>
      obtain ⟨k', e', q'⟩ := q5
      cases e'
      exact PyProof.Rows.ite_ff ⟨H5, I5, q'⟩
    | true =>
      refine PyProof.Rows.ite_tt (PyProof.Rows.test_last (thn (hd.run pins s5 σ H5 _ I5 q5) fun w2 s6 ⟨z3, H6, I6, r6, q6⟩ => thn (ho2 pins s6 σ H6 z' z3 w' w2 _ I6 r4 r6 q6) fun d3 s7 ⟨z4, H7, I7, r7, k3, e3, q7⟩ => ?_))
      subst e3
      cases r7
      exact wpAny_truthy_bool ⟨H7, I7, q7⟩
theorem ev_chain3 {c1 c2 c3 : Cm} {ρ : Env} {R : D → Prop} {g : E} (ev : P.ev (.chain3 c1 c2 c3 a b d g) ρ R) : P.ev a ρ fun x => P.ev b ρ fun y => ∃ t, dCmp c1 x y = some t ∧ if t = true then P.ev d ρ fun z => ∃ t, dCmp c2 y z = some t ∧ if t = true then P.ev g ρ fun u => ∃ t, dCmp c3 z u = some t ∧ R (.bool t) else R (.bool false) else R (.bool false) := by
  have h : P.ev a ρ fun x => P.ev b ρ fun y => wM.bind (wM.lift (dCmp c1 x y)) (fun t => if t = true then wM.bind (PV.ev wM P.C P.F P.G d ρ) (fun z => wM.bind (wM.lift (dCmp c2 y z)) fun t => if t = true then wM.bind (PV.ev wM P.C P.F P.G g ρ) (fun u => wM.lift ((dCmp c3 z u).map .bool)) else wM.pure (.bool false)) else wM.pure (.bool false)) R := by unfold Pm.ev PV.ev at ev; exact ev
  have l3 : ∀ z, (fun u => wM.lift ((dCmp c3 z u).map PyData.bool) R) = fun u => ∃ t, dCmp c3 z u = some t ∧ R (.bool t) := fun y => by
    funext x
    cases hb : dCmp c3 y x with
    | none => exact propext ⟨fun z => False.elim z, fun ⟨b, e, _⟩ => by cases e⟩
    | some b => exact propext ⟨fun z => ⟨b, rfl, z⟩, fun ⟨c, e, z⟩ => by cases e; exact z⟩
  have lf : ∀ (o : Option Bool) (f : Bool → W D), wM.bind (wM.lift o) f R = ∃ t, o = some t ∧ f t R := fun o f => by
    cases o with
    | none => exact propext ⟨fun z => False.elim z, fun ⟨b, e, _⟩ => by cases e⟩
    | some b => exact propext ⟨fun z => ⟨b, rfl, z⟩, fun ⟨c, e, z⟩ => by cases e; exact z⟩
  have e : (fun x => P.ev b ρ fun y => wM.bind (wM.lift (dCmp c1 x y)) (fun t => if t = true then wM.bind (PV.ev wM P.C P.F P.G d ρ) (fun z => wM.bind (wM.lift (dCmp c2 y z)) fun t => if t = true then wM.bind (PV.ev wM P.C P.F P.G g ρ) (fun u => wM.lift ((dCmp c3 z u).map .bool)) else wM.pure (.bool false)) else wM.pure (.bool false)) R) =
      fun x => P.ev b ρ fun y => ∃ t, dCmp c1 x y = some t ∧ if t = true then P.ev d ρ fun z => ∃ t, dCmp c2 y z = some t ∧ if t = true then P.ev g ρ fun u => ∃ t, dCmp c3 z u = some t ∧ R (.bool t) else R (.bool false) else R (.bool false) := by
    funext x
    refine congrArg (P.ev b ρ) (funext fun y => ?_)
    rw [lf]
    refine congrArg Exists (funext fun t => ?_)
    cases t with
    | false => rfl
    | true =>
      refine congrArg (And _) ?_
      show P.ev d ρ (fun z => wM.bind (wM.lift (dCmp c2 y z)) (fun t => if t = true then wM.bind (PV.ev wM P.C P.F P.G g ρ) (fun u => wM.lift ((dCmp c3 z u).map .bool)) else wM.pure (.bool false)) R) = P.ev d ρ _
      refine congrArg (P.ev d ρ) (funext fun z => ?_)
      rw [lf]
      refine congrArg Exists (funext fun t => ?_)
      cases t with
      | false => rfl
      | true =>
        refine congrArg (And _) ?_
        show P.ev g ρ (fun u => wM.lift ((dCmp c3 z u).map PyData.bool) R) = P.ev g ρ _
        rw [l3]
  rw [e] at h
  exact h
theorem chain3_q {c1 c2 c3 : Cm} {σ : L2.St} {H H0 : Hp} {O0 O : List Addr} {Q : VK} {ρ : Env} {R : D → Prop} {g : E} (S : Sim X.K P.w P.iw O0 H0 O H σ ρ) (es : NoOw (esc true a ++ (esc true b ++ (esc true d ++ esc true g))) ρ) (ev : P.ev (.chain3 c1 c2 c3 a b d g) ρ R)
    (q : ∀ t H', R (.bool t) → Ext P.w H H' → Q (.bl t) H') : tChain3 (rC2 X.K (dCmp c1)) (rC2 X.K (dCmp c2)) (rC2 X.K (dCmp c3)) (tB P X.K a) (tB P X.K b) (tB P X.K d) (tB P X.K g) σ H Q := by
  refine ⟨O0, H0, O, ρ, _, S, noOw_l es, ev_chain3 ev, fun d1 v1 H1 hd e1 b1 _ => ⟨O0, H0, O, ρ, _, S.ext e1, noOw_l (noOw_r es), hd, fun d2 v2 H2 hd e2 b2 _ => ?_⟩⟩
  obtain ⟨t, ht, hR⟩ := hd
  refine ⟨O, d1, d2, t, b1.ext e2 S.wo e1.2, b2, ht, t, rfl, ?_⟩
  cases t with
  | false => exact q false H2 hR (e1.trans e2)
  | true =>
    refine ⟨O0, H0, O, ρ, _, (S.ext e1).ext e2, noOw_l (noOw_r (noOw_r es)), hR, fun d3 v3 H3 hd e3 b3 _ => ?_⟩
    obtain ⟨t, ht, hR⟩ := hd
    refine ⟨O, d2, d3, t, b2.ext e3 S.wo e2.2, b3, ht, t, rfl, ?_⟩
    cases t with
    | false => exact q false H3 hR ((e1.trans e2).trans e3)
    | true =>
      refine ⟨O0, H0, O, ρ, _, ((S.ext e1).ext e2).ext e3, noOw_r (noOw_r (noOw_r es)), hR, fun d4 v4 H4 hd e4 b4 _ => ?_⟩
      obtain ⟨t, ht, hR⟩ := hd
      exact ⟨O, d3, d4, t, b3.ext e4 S.wo e3.2, b4, ht, q t H4 hR (((e1.trans e2).trans e3).trans e4)⟩
theorem lastM3 {o o' o2 : CmpOp} {u : Expr} (h : notSet u = true) : lastMarks [o, o', o2] [y, z, u] = false := by
  show behindInMarks o2 u = false
  exact nomk h
theorem snd_chain3 (hr : Room k X.A) {c1 c2 c3 : Cm} {g : E} {u : Expr} (ha : PE X x (tB P X.K a)) (hb : PE X y (tB P X.K b)) (hd : PE X z (tB P X.K d)) (hg : PE X u (tB P X.K g)) (hs : notSet u = true) : PE X (.Compare x [cmOp c1, cmOp c2, cmOp c3] [y, z, u] pos) (tE P X.K (.chain3 c1 c2 c3 a b d g)) :=
  (pe_chain3 (op_cmp hr c1) (op_cmp hr c2) (op_cmp hr c3) ha hb hd hg (lastM3 hs)).imp fun σ H Q q => by
    obtain ⟨O0, H0, O, ρ, R, S, es, ev, q⟩ := q
    exact chain3_q S (by simpa [esc] using es) ev fun t H' hR e => q _ _ H' hR e ⟨.bl t, fun _ z => by cases z⟩
theorem sndT_chain3 (hr : Room k X.A) {c1 c2 c3 : Cm} {g : E} {u : Expr} (ha : PE X x (tB P X.K a)) (hb : PE X y (tB P X.K b)) (hd : PE X z (tB P X.K d)) (hg : PE X u (tB P X.K g)) (hs : notSet u = true) : PT X (.Compare x [cmOp c1, cmOp c2, cmOp c3] [y, z, u] pos) (tT P X.K (.chain3 c1 c2 c3 a b d g)) :=
  (pt_chain3 (op_cmp hr c1) (op_cmp hr c2) (op_cmp hr c3) ha hb hd hg (lastM3 hs)).imp fun σ H Q q => by
    obtain ⟨O0, H0, O, ρ, R, S, es, ev, q⟩ := q
    refine chain3_q S (by simpa [esc] using es) ev fun t H' hR e => ?_
    obtain ⟨b, hb, q⟩ := q _ H' hR e
    cases hb
    exact ⟨_, rfl, q⟩
/-! several -/
theorem snd_nil : PA X [] (tEs P X.K .nil) := pa_nil.imp fun σ H Q q => by
  obtain ⟨O0, H0, O, ρ, R, S, es, ev, q⟩ := q
  have ev : R [] := by unfold Pm.evs PV.evs at ev; exact ev
  exact q [] [] H ev (Ext.refl S.wok) .nil rfl
theorem snd_cons {xs : List Expr} {cs : Es} (hn : notStar x = true) (ha : PE X x (tE P X.K a)) (hb : PA X xs (tEs P X.K cs)) : PA X (x :: xs) (tEs P X.K (.cons a cs)) :=
  (pa_cons ha hb (star_cons hn)).imp fun σ H Q q => by
    obtain ⟨O0, H0, O, ρ, R, S, es, ev, q⟩ := q
    have es : NoOw (esc false a ++ escs cs) ρ := by simpa [escs] using es
    have ev : P.ev a ρ fun d => P.evs cs ρ fun ds => R (d :: ds) := by unfold Pm.evs PV.evs at ev; exact ev
    refine ⟨O0, H0, O, ρ, _, S, noOw_l es, ev, fun d v H1 hd e1 r => ⟨O0, H0, O, ρ, _, S.ext e1, noOw_r es, hd, fun ds vs H2 hd e2 rs hl => ?_⟩⟩
    exact q _ _ H2 hd (e1.trans e2) (.cons (r.1.mono (e2.hid S.wo)) rs) (by simp [Es.len, hl])
theorem snd_tup {xs : List Expr} {cs : Es} {j : Nat} (h : PA X xs (tEs P X.K cs)) (hl : cs.len ≤ 1000) : PE X (.Tuple xs j pos) (tE P X.K (.tup cs)) :=
  (pe_tup h).imp fun σ H Q q => by
    obtain ⟨O0, H0, O, ρ, R, S, es, ev, q⟩ := q
    have ev : P.evs cs ρ fun ds => R (.tuple ds) := by unfold Pm.ev PV.ev at ev; exact ev
    refine ⟨O0, H0, O, ρ, _, S, by simpa [esc] using es, ev, fun ds vs H1 hd e1 rs hv => ⟨by rw [hv, sizeLine_eq]; omega, fun p hp => ?_⟩⟩
    have S1 := S.ext e1
    refine q _ _ _ hd (e1.trans (Ext.new S1.wok hp)) ⟨?_, fun z => by cases z⟩
    exact .tup (.inl (.inl (hid_in (fun hm => S1.dom p hm hp) (by simp [upd])))) (rs.mono (hid_le_mono (Le.new hp)))
theorem snd_lst {xs : List Expr} {cs : Es} (h : PA X xs (tEs P X.K cs)) (hl : cs.len ≤ 1000) : PE X (.List xs pos) (tE P X.K (.lst cs)) :=
  (pe_lst h).imp fun σ H Q q => by
    obtain ⟨O0, H0, O, ρ, R, S, es, ev, q⟩ := q
    have ev : P.evs cs ρ fun ds => R (.list ds) := by unfold Pm.ev PV.ev at ev; exact ev
    refine ⟨O0, H0, O, ρ, _, S, by simpa [esc] using es, ev, fun ds vs H1 hd e1 rs hv => ⟨by rw [hv, sizeLine_eq]; omega, fun p hp => ?_⟩⟩
    have S1 := S.ext e1
    refine q _ _ _ hd (e1.trans (Ext.new S1.wok hp)) ⟨?_, fun _ _ => ?_⟩
    · exact .lst (hid_in (fun hm => S1.dom p hm hp) (by simp [upd])) (rs.mono (hid_le_mono (Le.new hp)))
    · exact FrP.back (H1 := H1) ⟨p, vs, ds, rfl, rfl, hp, by simp [upd], rs.mono (hid_cons_new hp)⟩ e1
/-! slices -/
def tO (P : Pm) (K : PySem.W.Frag) (c : E) : TO := fun σ H Q => ∃ O0 H0 O ρ R, Sim K P.w P.iw O0 H0 O H σ ρ ∧ NoOw (esc true c) ρ ∧ P.ev c ρ R ∧ ∀ d H', R d → Ext P.w H H' → ∃ o, bound? c d = some o ∧ Q o H'
theorem po_imp {e : Option Expr} {t t' : TO} (h : PO X e t') (k : ∀ σ H Q, t σ H Q → t' σ H Q) : PO X e t := ⟨fun pins s σ H Q I q => h.run pins s σ H Q I (k σ H Q q)⟩
theorem po_no : PO X none (tO P X.K .none) := po_imp po_none fun σ H Q q => by
  obtain ⟨O0, H0, O, ρ, R, S, es, ev, q⟩ := q
  have ev : R .none := by unfold Pm.ev PV.ev at ev; exact ev
  obtain ⟨o, ho, q⟩ := q _ H ev (Ext.refl S.wok)
  cases ho
  exact q
theorem po_yes (h : PE X x (tB P X.K a)) (hn : ∀ d o, bound? a d = some o → ∃ i, d = .int i ∧ o = some i) : PO X (some x) (tO P X.K a) := po_imp (po_some h) fun σ H Q q => by
  obtain ⟨O0, H0, O, ρ, R, S, es, ev, q⟩ := q
  refine ⟨O0, H0, O, ρ, R, S, es, ev, fun d v H' hd e ba _ => ?_⟩
  obtain ⟨o, ho, q⟩ := q _ H' hd e
  obtain ⟨i, rfl, rfl⟩ := hn d o ho
  exact ⟨i, ba.int, q⟩
theorem bnd_int {c : E} (hc : (match c with | .none => false | _ => true) = true) {d : D} {o : Option Int} (h : bound? c d = some o) : ∃ i, d = .int i ∧ o = some i := by
  cases c with
  | none => cases hc
  | _ => cases d <;> simp [bound?] at h <;> exact ⟨_, rfl, h.symm⟩
theorem snd_sl {lo hi : E} {l h' : Option Expr} {p2 : Pos} (ha : PE X x (tB P X.K a)) (hl : PO X l (tO P X.K lo)) (hh : PO X h' (tO P X.K hi)) : PE X (.Subscript x (.Slice l h' none p2) pos) (tE P X.K (.sl a lo hi)) :=
  (pe_slice op_sl ha hl hh).imp fun σ H Q q => by
    obtain ⟨O0, H0, O, ρ, R, S, es, ev, q⟩ := q
    have es : NoOw (esc true a ++ (esc true lo ++ esc true hi)) ρ := by simpa [esc] using es
    have ev : P.ev a ρ fun x => P.ev lo ρ fun y => wM.bind (wM.lift (bound? lo y)) (fun l => wM.bind (PV.ev wM P.C P.F P.G hi ρ) fun z => wM.bind (wM.lift (bound? hi z)) fun h => wM.lift (dSl x l h)) R := by unfold Pm.ev PV.ev at ev; exact ev
    refine ⟨O0, H0, O, ρ, _, S, noOw_l es, ev, fun d1 v1 H1 hd e1 b1 _ => ⟨O0, H0, O, ρ, _, S.ext e1, noOw_l (noOw_r es), hd, fun d2 H2 hd e2 => ?_⟩⟩
    obtain ⟨l, hl, hd⟩ := wbind hd
    refine ⟨l, hl, O0, H0, O, ρ, _, (S.ext e1).ext e2, noOw_r (noOw_r es), hd, fun d3 H3 hd e3 => ?_⟩
    obtain ⟨h, hh, hd⟩ := wbind hd
    obtain ⟨w, hw, hR⟩ := wlift hd
    have S3 := ((S.ext e1).ext e2).ext e3
    refine ⟨h, hh, O, d1, w, S3.dom, b1.ext (e2.trans e3) S.wo e1.2, hw, fun v H4 le rp fr => q w v H4 hR (((e1.trans e2).trans e3).trans (Ext.of_le S3.wok le)) ⟨rp, fun _ z2 => ?_⟩⟩
    exact (fr rfl z2).back ((e1.trans e2).trans e3)
theorem snd_rev {k : Nat} {p1 p2 p3 : Pos} (ha : PE X x (tB P X.K a)) : PE X (.Subscript x (.Slice none none (some (.UnaryOp .USub (.Constant (.int 1) k p1) p2)) p3) pos) (tE P X.K (.rev a)) :=
  (pe_rv ha).imp fun σ H Q q => by
    obtain ⟨O0, H0, O, ρ, R, S, es, ev, q⟩ := q
    have es : NoOw (esc true a) ρ := by simpa [esc] using es
    have ev : P.ev a ρ fun x => wM.lift (dRev x) R := by unfold Pm.ev PV.ev at ev; exact ev
    refine ⟨O0, H0, O, ρ, _, S, es, ev, fun d1 v1 H1 hd e1 b1 _ => ?_⟩
    obtain ⟨w, hw, hR⟩ := wlift hd
    have S1 := S.ext e1
    refine ⟨O, d1, w, S1.dom, b1, hw, fun v H4 le rp fr => q w v H4 hR (e1.trans (Ext.of_le S1.wok le)) ⟨rp, fun _ z2 => ?_⟩⟩
    exact (fr rfl z2).back e1
/-! calls -/
theorem snd_call (g : Gd P ct X k) {xs : List Expr} {cs : Es} {f n : Nat} {nm : Str} {p : Pos} (hf : ct.fs.contains (f, nm, n, false) = true) (hg : isGl ct nm = true) (hd : notDbg nm = true) (hs : notStar x = true) (hp : (backTo pos (starEach xs X.env)).any (·.1) = false)
    (h : PA X (x :: xs) (tEs P X.K cs)) (hn : cs.len = n) : PE X (.Call (.Name nm p) (x :: xs) [] pos) (tE P X.K (.call f cs)) := by
  obtain ⟨a, fd, ps, hm, hk, hb, F⟩ := g.fns f nm n false (by simpa using hf)
  rw [if_neg (by simp)] at F
  refine (pe_call (dvs := []) (E := E0) F g.room (g.gl hg) hm hk hb .nil pass0 h (dbg hd).1 (star_cons hs) hp).imp fun σ H Q q => ?_
  obtain ⟨O0, H0, O, ρ, R, S, es, ev, q⟩ := q
  have ev : P.evs cs ρ fun ds => P.F f ds R := by unfold Pm.ev PV.ev at ev; exact ev
  refine ⟨O0, H0, O, ρ, _, S, by simpa [esc] using es, ev, fun ds vs H1 hd e1 rs hv => ?_⟩
  have S1 := S.ext e1
  show spF n (P.F f) X.K (vs ++ []) H1 Q E0
  rw [List.append_nil]
  exact ⟨by rw [hv, hn], O, ds, R, S1.dom, rs, hd, fun d v H' hR le r => q d v H' hR (e1.trans (Ext.of_le S1.wok le)) ⟨r, fun z => by cases z⟩⟩
theorem snd_callw (g : Gd P ct X k) {xs : List Expr} {cs : Es} {f n : Nat} {nm zn : Str} {p pz : Pos} (hf : ct.fs.contains (f, nm, n, true) = true) (hg : isGl ct nm = true) (hd : notDbg nm = true) (hp : (backTo pos (starEach xs X.env)).any (·.1) = false)
    (hz : (ct.N[ct.iw]? == some zn && (isVis ct.sc zn && notDbg zn)) = true) (h : PA X xs (tEs P X.K cs)) (hn : cs.len + 1 = n) : PE X (.Call (.Name nm p) (.Name zn pz :: xs) [] pos) (tE P X.K (.callw f cs)) := by
  obtain ⟨a, fd, ps, hm, hk, hb, F⟩ := g.fns f nm n true (by simpa using hf)
  rw [if_pos rfl] at F
  refine (pe_call (dvs := []) (E := E0) F g.room (g.gl hg) hm hk hb .nil pass0 (pa_cons (pe_nm g hz) h) (dbg hd).1 rfl hp).imp fun σ H Q q => ?_
  obtain ⟨O0, H0, O, ρ, R, S, es, ev, q⟩ := q
  have ev : P.evs cs ρ fun ds => P.G f ds R := by unfold Pm.ev PV.ev at ev; exact ev
  obtain ⟨t, ht⟩ := Option.isSome_iff_exists.mp (g.hws f nm n (by simpa using hf))
  refine ⟨.ref t.1, by rw [g.hiw]; exact (S.wS t ht).1, O0, H0, O, ρ, _, S, by simpa [esc] using es, ev, fun ds vs H1 hd e1 rs hv => ?_⟩
  have S1 := S.ext e1
  show spG n (P.G f) X.K ((V.ref t.1 :: vs) ++ []) H1 Q E0
  rw [List.append_nil]
  refine ⟨by rw [List.length_cons, hv, hn], t, O, ds, R, vs, rfl, ?_, S1.wo t.1 ⟨t, ht, rfl⟩, S1.dom, rs, hd, fun d v H' hR e r => q d v H' hR (e1.trans ?_) ⟨r, fun z => by cases z⟩⟩
  · rw [← ht]; exact S1.wok
  · rw [ht]; exact e
end
end PV

set_option maxHeartbeats 4000000
/-! PV: built-in functions, what a loop walks, targets. -/
namespace PV
open PySem L2 RZ

section
variable {P : Pm} {ct : Ct} {X : Cx} {k : Nat} {a b c d : E} {x y z u : Expr} {pos : Pos}
/-! one argument -/
theorem bi_q {bb : Bi} {σ : L2.St} {H : Hp} {Q : VK} (q : tE P X.K (.bi bb a) σ H Q) : tCB (rD1 X.K bb) (tCons (tB P X.K a) tNil) σ H Q := by
  obtain ⟨O0, H0, O, ρ, R, S, es, ev, q⟩ := q
  have ev : P.ev a ρ fun x => wM.lift (dBi bb x) R := by unfold Pm.ev PV.ev at ev; exact ev
  refine ⟨O0, H0, O, ρ, _, S, by simpa [esc] using es, ev, fun d v H1 hd e1 ba _ => ?_⟩
  obtain ⟨w, hw, hR⟩ := wlift hd
  have S1 := S.ext e1
  refine ⟨O, v, d, w, rfl, S1.dom, ba, hw, fun v' H2 le rp fr => q w v' H2 hR (e1.trans (Ext.of_le S1.wok le)) ⟨rp, fun z1 z2 => ?_⟩⟩
  exact (fr (by cases bb <;> first | rfl | (simp [E.fresh] at z1)) z2).back e1
theorem bi_f {bb : Bi} {nm : Str} {p : Pos} {id : String} (g : Gd P ct X k) (hc : CallR X (.builtin id) (rD1 X.K bb)) (hg : isGl ct nm = true) (hm : nm ∈ bltN) (hv : bootBuiltins nm = some (.builtin id)) (hn : nm ≠ "__name__") (hdb : (nm == ("__debug__" : Str)) = false)
    (ha : PE X x (tB P X.K a)) (hs : notStar x = true) : PE X (.Call (.Name nm p) [x] [] pos) (tE P X.K (.bi bb a)) :=
  (pe_callB hc (g.gl hg) (g.blt nm hm) hv (pa_cons ha pa_nil (star_cons hs)) hn hdb (star_cons hs) rfl).imp fun σ H Q q => bi_q q
theorem bi_t {bb : Bi} {nm : Str} {p : Pos} {id : String} (g : Gd P ct X k) (hc : CallR X (.type id) (rD1 X.K bb)) (hg : isGl ct nm = true) (hm : nm ∈ bltN) (hv : bootBuiltins nm = some (.type id)) (hn : nm ≠ "__name__") (hdb : (nm == ("__debug__" : Str)) = false)
    (ha : PE X x (tB P X.K a)) (hs : notStar x = true) : PE X (.Call (.Name nm p) [x] [] pos) (tE P X.K (.bi bb a)) :=
  (pe_callTy hc (g.gl hg) (g.blt nm hm) hv (pa_cons ha pa_nil (star_cons hs)) hn hdb (star_cons hs) rfl).imp fun σ H Q q => bi_q q
theorem snd_bi (g : Gd P ct X k) {bb : Bi} {nm : Str} {p : Pos} (hb : biOk bb = true) (hx : (nm == biN bb) = true) (hg : isGl ct nm = true) (hs : notStar x = true) (ha : PE X x (tB P X.K a)) : PE X (.Call (.Name nm p) [x] [] pos) (tE P X.K (.bi bb a)) := by
  obtain rfl : nm = biN bb := beq_iff_eq.mp hx
  cases bb with
  | len => exact bi_f g bi_len hg (by decide) rfl (by decide) (by decide) ha hs
  | abs => exact bi_f g bi_abs hg (by decide) rfl (by decide) (by decide) ha hs
  | sum => exact bi_f g (bi_sum g.calm) hg (by decide) rfl (by decide) (by decide) ha hs
  | any => exact bi_f g (bi_any g.calm) hg (by decide) rfl (by decide) (by decide) ha hs
  | all => exact bi_f g (bi_all g.calm) hg (by decide) rfl (by decide) (by decide) ha hs
  | tuple => exact bi_t g bi_tuple hg (by decide) rfl (by decide) (by decide) ha hs
  | list => exact bi_t g bi_list hg (by decide) rfl (by decide) (by decide) ha hs
  | sorted => exact bi_f g (bi_sorted g.room) hg (by decide) rfl (by decide) (by decide) ha hs
  | min => exact bi_f g (bi_min g.room g.calm) hg (by decide) rfl (by decide) (by decide) ha hs
  | max => exact bi_f g (bi_max g.room g.calm) hg (by decide) rfl (by decide) (by decide) ha hs
  | int => exact bi_t g bi_int hg (by decide) rfl (by decide) (by decide) ha hs
  | str => cases hb
  | dict => cases hb
  | sset => cases hb
  | lset => cases hb
/-! two arguments -/
theorem pa_two (ha : PE X x (tB P X.K a)) (hb : PE X y (tB P X.K b)) (hs : notStar x = true) (hs2 : notStar y = true) : PA X [x, y] (tCons (tB P X.K a) (tCons (tB P X.K b) tNil)) :=
  pa_cons ha (pa_cons hb pa_nil (star_cons hs2)) (star_cons hs)
theorem plain1 {env : PySem.Env} (hs : notStar y = true) : (backTo pos (starEach [y] env)).any (·.1) = false := by
  rw [star_cons hs]
  rfl
theorem mm_q {gg : D → D → Option D} {cc : E} (hf : cc.fresh = false) (he : esc false cc = esc true a ++ esc true b) (hv : ∀ ρ R, P.ev cc ρ R → P.ev a ρ fun u => P.ev b ρ fun v => wM.lift (gg u v) R) {σ : L2.St} {H : Hp} {Q : VK} (q : tE P X.K cc σ H Q) :
    tCB (rM2 X.K gg) (tCons (tB P X.K a) (tCons (tB P X.K b) tNil)) σ H Q := by
  obtain ⟨O0, H0, O, ρ, R, S, es, ev, q⟩ := q
  rw [he] at es
  refine ⟨O0, H0, O, ρ, _, S, noOw_l es, hv ρ R ev, fun d u H1 hd e1 ba _ => ⟨O0, H0, O, ρ, _, S.ext e1, noOw_r es, hd, fun d' u' H2 hd' e2 bb _ => ?_⟩⟩
  obtain ⟨w, hw, hR⟩ := wlift hd'
  have S2 := (S.ext e1).ext e2
  exact ⟨O, u, u', d, d', w, rfl, ba.ext e2 S.wo e1.2, bb, hw, fun v H3 le rp fr => q w v H3 hR ((e1.trans e2).trans (Ext.of_le S2.wok le)) ⟨rp, fun z1 => by rw [hf] at z1; cases z1⟩⟩
theorem snd_mx (g : Gd P ct X k) {p : Pos} (hg : isGl ct "max" = true) (hs : notStar x = true) (hs2 : notStar y = true) (ha : PE X x (tB P X.K a)) (hb : PE X y (tB P X.K b)) : PE X (.Call (.Name "max" p) [x, y] [] pos) (tE P X.K (.mx a b)) :=
  (pe_callB (bi_mx g.calm) (g.gl hg) (g.blt _ (by decide)) rfl (pa_two ha hb hs hs2) (by decide) (by decide) (star_cons hs) (plain1 hs2)).imp fun σ H Q q =>
    mm_q (cc := .mx a b) rfl (by simp [esc]) (fun ρ R h => by unfold Pm.ev PV.ev at h; exact h) q
theorem snd_mn (g : Gd P ct X k) {p : Pos} (hg : isGl ct "min" = true) (hs : notStar x = true) (hs2 : notStar y = true) (ha : PE X x (tB P X.K a)) (hb : PE X y (tB P X.K b)) : PE X (.Call (.Name "min" p) [x, y] [] pos) (tE P X.K (.mn a b)) :=
  (pe_callB (bi_mn g.calm) (g.gl hg) (g.blt _ (by decide)) rfl (pa_two ha hb hs hs2) (by decide) (by decide) (star_cons hs) (plain1 hs2)).imp fun σ H Q q =>
    mm_q (cc := .mn a b) rfl (by simp [esc]) (fun ρ R h => by unfold Pm.ev PV.ev at h; exact h) q
theorem pe_tyn {nm : Str} {T : String} (hg : Gl X nm) (hm : X.mg nm = none) (hv : bootBuiltins nm = some (.type T)) (hn : nm ≠ "__name__") (hd : (nm == ("__debug__" : Str)) = false) : PE X (.Name nm pos) (tC (.ty T)) :=
  ⟨fun pins s σ H Q I h => ld_blt I hg hm hv ⟨.ty T, H, I, rfl, h⟩ hn hd⟩
theorem ty_facts (t : Ty) : Str.ofString (tyN t) ∈ bltN ∧ bootBuiltins (Str.ofString (tyN t)) = some (.type (tyN t)) ∧ Str.ofString (tyN t) ≠ "__name__" ∧ (Str.ofString (tyN t) == ("__debug__" : Str)) = false := by
  cases t <;> exact ⟨by decide, rfl, by decide, by decide⟩
theorem snd_isin (g : Gd P ct X k) {t : Ty} {p p2 : Pos} {n : Str} (hg : isGl ct "isinstance" = true) (hn : (n == Str.ofString (tyN t)) = true) (hg2 : isGl ct n = true) (hs : notStar x = true) (ha : PE X x (tB P X.K a)) : PE X (.Call (.Name "isinstance" p) [x, .Name n p2] [] pos) (tE P X.K (.isin a t)) := by
  obtain rfl : n = Str.ofString (tyN t) := beq_iff_eq.mp hn
  obtain ⟨f1, f2, f3, f4⟩ := ty_facts t
  refine (pe_callB (bi_isin t) (g.gl hg) (g.blt _ (by decide)) rfl (pa_cons ha (pa_cons (pe_tyn (g.gl hg2) (g.blt _ f1) f2 f3 f4) pa_nil) (star_cons hs)) (by decide) (by decide) (star_cons hs) rfl).imp fun σ H Q q => ?_
  obtain ⟨O0, H0, O, ρ, R, S, es, ev, q⟩ := q
  have ev : P.ev a ρ fun x => R (.bool (dIs x t)) := by unfold Pm.ev PV.ev at ev; exact ev
  exact ⟨O0, H0, O, ρ, _, S, by simpa [esc] using es, ev, fun d v H1 hd e1 ba _ => ⟨O, v, d, rfl, ba, q _ _ H1 hd e1 ⟨.bl _, fun _ z => by cases z⟩⟩⟩

/-! ranges -/
theorem rps_rng (K : PySem.W.Frag) (H : Hp) (i j : Int) : Rps K H (rgV i j) (rng i j) := by
  unfold rgV rng
  generalize List.range (j - i).toNat = l
  induction l with
  | nil => exact .nil
  | cons n l ih => exact .cons (.int _) ih
theorem okR_of {i j : Int} (h : okR i j = true) : RgOk i j := by
  unfold okR at h
  have h := of_decide_eq_true h
  unfold RgOk
  have e : LINE = 2 ^ 24 := by decide
  omega
theorem snd_bis_t {s : Src} {te : L2.St → Hp → (Int → Int → Hp → Prop) → Prop} {p : Pos} (g : Gd P ct X k) (hg : isGl ct "tuple" = true) (hs : notStar x = true) (he : PRg X x te)
    (hq : ∀ σ H O0 H0 O ρ S', Sim X.K P.w P.iw O0 H0 O H σ ρ → NoOw (escS s) ρ → P.evS s ρ S' → ∀ Q : Int → Int → Hp → Prop, (∀ i j H', S' (rng i j) → okR i j = true → Ext P.w H H' → Q i j H') → te σ H Q) :
    PE X (.Call (.Name "tuple" p) [x] [] pos) (tE P X.K (.bis .tuple s)) :=
  (pe_tupRg g.calm (g.gl hg) (g.blt _ (by decide)) he (star_cons hs)).imp fun σ H Q q => by
    obtain ⟨O0, H0, O, ρ, R, S, es, ev, q⟩ := q
    have ev : P.evS s ρ fun xs => R (.tuple xs) := by unfold Pm.ev PV.ev at ev; exact ev
    refine hq σ H O0 H0 O ρ _ S (by simpa [esc] using es) ev _ fun i j H' hR hk e => ⟨okR_of hk, fun p hp => ?_⟩
    have S1 := S.ext e
    refine q _ _ _ hR (e.trans (Ext.new S1.wok hp)) ⟨?_, fun z => by cases z⟩
    exact .tup (.inl (.inl (hid_in (fun hm => S1.dom p hm hp) (by simp [upd])))) (rps_rng _ _ i j)
theorem snd_bis_l {s : Src} {te : L2.St → Hp → (Int → Int → Hp → Prop) → Prop} {p : Pos} (g : Gd P ct X k) (hg : isGl ct "list" = true) (hs : notStar x = true) (he : PRg X x te)
    (hq : ∀ σ H O0 H0 O ρ S', Sim X.K P.w P.iw O0 H0 O H σ ρ → NoOw (escS s) ρ → P.evS s ρ S' → ∀ Q : Int → Int → Hp → Prop, (∀ i j H', S' (rng i j) → okR i j = true → Ext P.w H H' → Q i j H') → te σ H Q) :
    PE X (.Call (.Name "list" p) [x] [] pos) (tE P X.K (.bis .list s)) :=
  (pe_listRg g.calm (g.gl hg) (g.blt _ (by decide)) he (star_cons hs)).imp fun σ H Q q => by
    obtain ⟨O0, H0, O, ρ, R, S, es, ev, q⟩ := q
    have ev : P.evS s ρ fun xs => R (.list xs) := by unfold Pm.ev PV.ev at ev; exact ev
    refine hq σ H O0 H0 O ρ _ S (by simpa [esc] using es) ev _ fun i j H' hR hk e => ⟨okR_of hk, fun p hp => ?_⟩
    have S1 := S.ext e
    refine q _ _ _ hR (e.trans (Ext.new S1.wok hp)) ⟨?_, fun _ _ => ?_⟩
    · exact .lst (hid_in (fun hm => S1.dom p hm hp) (by simp [upd])) (rps_rng _ _ i j)
    · exact FrP.back (H1 := H') ⟨p, _, _, rfl, rfl, hp, by simp [upd], rps_rng _ _ i j⟩ e
theorem wite {α : Type} {b : Bool} {o : W α} {R : α → Prop} (h : (if b = true then o else wM.fail) R) : b = true ∧ o R := by
  cases b with
  | true => exact ⟨rfl, h⟩
  | false => exact False.elim h
theorem rg1_q {σ : L2.St} {H : Hp} {O0 : List Addr} {H0 : Hp} {O : List Addr} {ρ : Env} {S' : List D → Prop} (S : Sim X.K P.w P.iw O0 H0 O H σ ρ) (es : NoOw (escS (.r1 a)) ρ) (ev : P.evS (.r1 a) ρ S') (Q : Int → Int → Hp → Prop)
    (q : ∀ i j H', S' (rng i j) → okR i j = true → Ext P.w H H' → Q i j H') : tRg1 (tB P X.K a) σ H Q := by
  have ev : P.ev a ρ fun x => wM.bind (wM.lift (int? x)) (fun i => if okR 0 i then wM.pure (rng 0 i) else wM.fail) S' := by unfold Pm.evS PV.evS at ev; exact ev
  refine ⟨O0, H0, O, ρ, _, S, by simpa [escS] using es, ev, fun d v H1 hd e1 ba _ => ?_⟩
  obtain ⟨i, hi, hd⟩ := wbind hd
  obtain ⟨hk, hd⟩ := wite hd
  rw [int_some hi] at ba
  exact ⟨i, ba.int, q 0 i H1 hd hk e1⟩
theorem rg2_q {σ : L2.St} {H : Hp} {O0 : List Addr} {H0 : Hp} {O : List Addr} {ρ : Env} {S' : List D → Prop} (S : Sim X.K P.w P.iw O0 H0 O H σ ρ) (es : NoOw (escS (.r2 a b)) ρ) (ev : P.evS (.r2 a b) ρ S') (Q : Int → Int → Hp → Prop)
    (q : ∀ i j H', S' (rng i j) → okR i j = true → Ext P.w H H' → Q i j H') : tRg2 (tB P X.K a) (tB P X.K b) σ H Q := by
  have ev : P.ev a ρ fun x => wM.bind (wM.lift (int? x)) (fun i => wM.bind (PV.ev wM P.C P.F P.G b ρ) fun y => wM.bind (wM.lift (int? y)) fun j => if okR i j then wM.pure (rng i j) else wM.fail) S' := by unfold Pm.evS PV.evS at ev; exact ev
  have es : NoOw (esc true a ++ esc true b) ρ := by simpa [escS] using es
  refine ⟨O0, H0, O, ρ, _, S, noOw_l es, ev, fun d v H1 hd e1 ba _ => ?_⟩
  obtain ⟨i, hi, hd⟩ := wbind hd
  rw [int_some hi] at ba
  refine ⟨O0, H0, O, ρ, _, S.ext e1, noOw_r es, hd, fun d2 v2 H2 hd e2 bb _ => ?_⟩
  obtain ⟨j, hj, hd⟩ := wbind hd
  obtain ⟨hk, hd⟩ := wite hd
  rw [int_some hj] at bb
  exact ⟨i, j, ba.int, bb.int, q i j H2 hd hk (e1.trans e2)⟩

/-! ### what a loop walks -/
/-- J walks ds where G holds -/
def Wk (K : PySem.W.Frag) (J : It) (ds : List D) (G : List Addr → Hp → Prop) : Prop := ∀ O' H', G O' H' → ∀ i : Nat, (∀ d, ds[i]? = some d → J.go i H' ∧ ∀ x H'', J.yld i H' x H'' → Le H' H'' ∧ Rp K (hid O' H'') x d) ∧ (ds.length ≤ i → J.stop i H')
/-- fz: the source is frozen; else it may be a list that a slot holds alone and that stays as it is -/
def Gk (fz : Bool) (σ : L2.St) (ρ : Env) (O : List Addr) (H1 : Hp) : List Addr → Hp → Prop := fun O' H' => Dm O' H' ∧ Le (hid O H1) (hid O' H') ∧ (fz = false → ∀ p, SlOw σ ρ p → H' p = H1 p)
def escW (fz : Bool) (s : Src) : List Nat := if fz = true then escF s else escS s
def tI (P : Pm) (K : PySem.W.Frag) (fz : Bool) (c : Src) : TI := fun σ H R => ∃ O0 H0 O ρ S', Sim K P.w P.iw O0 H0 O H σ ρ ∧ NoOw (escW fz c) ρ ∧ P.evS c ρ S' ∧ ∀ ds J H', S' ds → ds.length ≤ LINE → Ext P.w H H' → Wk K J ds (Gk fz σ ρ O H') → R J H'
theorem pi_imp {tg e : Expr} {t t' : TI} (h : PI X tg e t') (k : ∀ σ H R, t σ H R → t' σ H R) : PI X tg e t := ⟨fun pins s σ H R I q => h.run pins s σ H R I (k σ H R q)⟩
theorem rng_get {i j : Int} {n : Nat} {d : D} (h : (rng i j)[n]? = some d) : n < (j - i).toNat ∧ d = .int (i + n) := by
  unfold rng at h
  rw [List.getElem?_map] at h
  by_cases hn : n < (j - i).toNat
  · rw [List.getElem?_range hn] at h
    exact ⟨hn, (Option.some.inj h).symm⟩
  · rw [List.getElem?_eq_none (by simpa using hn)] at h
    cases h
theorem rngD_get {i j : Int} {n : Nat} {d : D} (h : (rngD i j)[n]? = some d) : n < (i - j).toNat ∧ d = .int (i - n) := by
  unfold rngD at h
  rw [List.getElem?_map] at h
  by_cases hn : n < (i - j).toNat
  · rw [List.getElem?_range hn] at h
    exact ⟨hn, (Option.some.inj h).symm⟩
  · rw [List.getElem?_eq_none (by simpa using hn)] at h
    cases h
theorem wk_rng (K : PySem.W.Frag) (i j : Int) (G : List Addr → Hp → Prop) : Wk K (Itr i (j - i).toNat) (rng i j) G := fun O' H' _ n => by
  refine ⟨fun d hd => ?_, fun h => ?_⟩
  · obtain ⟨h1, rfl⟩ := rng_get hd
    refine ⟨h1, fun x H'' hy => ?_⟩
    obtain ⟨rfl, rfl⟩ := hy
    exact ⟨Le.refl _, .int _⟩
  · show (j - i).toNat ≤ n
    rw [show (rng i j).length = (j - i).toNat by simp [rng]] at h
    exact h
theorem wk_rngD (K : PySem.W.Frag) (i j : Int) (G : List Addr → Hp → Prop) : Wk K (Itc i (-1) (i - j).toNat) (rngD i j) G := fun O' H' _ n => by
  refine ⟨fun d hd => ?_, fun h => ?_⟩
  · obtain ⟨h1, rfl⟩ := rngD_get hd
    refine ⟨h1, fun x H'' hy => ?_⟩
    obtain ⟨rfl, rfl⟩ := hy
    have e : i + (n : Nat) * (-1) = i - n := by omega
    rw [e]
    exact ⟨Le.refl _, .int _⟩
  · show (i - j).toNat ≤ n
    rw [show (rngD i j).length = (i - j).toNat by simp [rngD]] at h
    exact h
theorem rng_len {i j : Int} (h : okR i j = true) : (rng i j).length ≤ LINE := by
  unfold okR at h
  have h := of_decide_eq_true h
  simpa [rng] using h.2.2
theorem snd_r1 (g : Gd P ct X k) {fz : Bool} {tg : Expr} {p : Pos} (hg : isGl ct "range" = true) (hs : notStar x = true) (ha : PE X x (tB P X.K a)) : PI X tg (.Call (.Name "range" p) [x] [] pos) (tI P X.K fz (.r1 a)) :=
  pi_imp (pi_range1 (g.gl hg) (g.blt _ (by decide)) (pa_cons ha pa_nil (star_cons hs)) (by rw [star_cons hs]; rfl)) fun σ H R q => by
    obtain ⟨O0, H0, O, ρ, S', S, es, ev, q⟩ := q
    have ev : P.ev a ρ fun x => wM.bind (wM.lift (int? x)) (fun i => if okR 0 i then wM.pure (rng 0 i) else wM.fail) S' := by unfold Pm.evS PV.evS at ev; exact ev
    refine ⟨O0, H0, O, ρ, _, S, by cases fz <;> simpa [escW, escF, escS] using es, ev, fun d v H1 hd e1 ba _ => ?_⟩
    obtain ⟨j, hj, hd⟩ := wbind hd
    obtain ⟨hk, hd⟩ := wite hd
    rw [int_some hj] at ba
    obtain ⟨_, _, k1, k2, _⟩ := okR_of hk
    have w := wk_rng X.K 0 j (Gk fz σ ρ O H1)
    rw [Int.sub_zero] at w
    exact ⟨j, by rw [ba.int], k1, k2, q _ _ H1 hd (rng_len hk) e1 w⟩
theorem snd_r2 (g : Gd P ct X k) {fz : Bool} {tg : Expr} {p : Pos} (hg : isGl ct "range" = true) (hs : notStar x = true) (hs2 : notStar y = true) (ha : PE X x (tB P X.K a)) (hb : PE X y (tB P X.K b)) : PI X tg (.Call (.Name "range" p) [x, y] [] pos) (tI P X.K fz (.r2 a b)) :=
  pi_imp (pi_range2 (g.gl hg) (g.blt _ (by decide)) (pa_two ha hb hs hs2) (by rw [star_cons hs, star_cons hs2]; rfl) (by rw [star_cons hs2]; rfl)) fun σ H R q => by
    obtain ⟨O0, H0, O, ρ, S', S, es, ev, q⟩ := q
    have h := rg2_q (X := X) (Q := fun i j H' => (-(2 ^ 62) ≤ i ∧ i < 2 ^ 62 ∧ -(2 ^ 62) ≤ j ∧ j < 2 ^ 62) ∧ R (Itr i (j - i).toNat) H') S (by cases fz <;> simpa [escW, escF, escS] using es) ev fun i j H' hS hk e => by
      obtain ⟨k0, k01, k1, k2, _⟩ := okR_of hk
      exact ⟨⟨k0, k01, k1, k2⟩, q _ _ H' hS (rng_len hk) e (wk_rng X.K i j _)⟩
    obtain ⟨O0, H0, O, ρ, R', S, es, ev, h⟩ := h
    refine ⟨O0, H0, O, ρ, R', S, es, ev, fun d v H' hd e ba lo => ?_⟩
    obtain ⟨O0, H0, O, ρ, R', S, es, ev, h⟩ := h d v H' hd e ba lo
    refine ⟨O0, H0, O, ρ, R', S, es, ev, fun d v H' hd e ba lo => ?_⟩
    obtain ⟨i, j, h1, h2, h3, h4⟩ := h d v H' hd e ba lo
    exact ⟨i, j, by rw [h1, h2], h3, h4⟩
theorem snd_r3 (g : Gd P ct X k) {fz : Bool} {tg : Expr} {p : Pos} (hg : isGl ct "range" = true) (hs : notStar x = true) (hs2 : notStar y = true) (hs3 : notStar z = true) (ha : PE X x (tB P X.K a)) (hb : PE X y (tB P X.K b)) (hc : PE X z (tB P X.K c)) :
    PI X tg (.Call (.Name "range" p) [x, y, z] [] pos) (tI P X.K fz (.r3 a b c)) :=
  pi_imp (pi_range3 (g.gl hg) (g.blt _ (by decide)) (pa_cons ha (pa_two hb hc hs2 hs3) (star_cons hs)) (star_cons hs) (by rw [star_cons hs2, star_cons hs3]; rfl)) fun σ H R q => by
    obtain ⟨O0, H0, O, ρ, S', S, es, ev, q⟩ := q
    have es : NoOw (esc true a ++ (esc true b ++ esc true c)) ρ := by cases fz <;> simpa [escW, escF, escS] using es
    have ev : P.ev a ρ fun x => wM.bind (wM.lift (int? x)) (fun i => wM.bind (PV.ev wM P.C P.F P.G b ρ) fun y => wM.bind (wM.lift (int? y)) fun j => wM.bind (PV.ev wM P.C P.F P.G c ρ) fun z => wM.bind (wM.lift (int? z)) fun k => if okR j i && k == -1 then wM.pure (rngD i j) else wM.fail) S' := by unfold Pm.evS PV.evS at ev; exact ev
    refine ⟨O0, H0, O, ρ, _, S, noOw_l es, ev, fun d v H1 hd e1 ba _ => ?_⟩
    obtain ⟨i, hi, hd⟩ := wbind hd
    rw [int_some hi] at ba
    refine ⟨O0, H0, O, ρ, _, S.ext e1, noOw_l (noOw_r es), hd, fun d2 v2 H2 hd e2 bb _ => ?_⟩
    obtain ⟨j, hj, hd⟩ := wbind hd
    rw [int_some hj] at bb
    refine ⟨O0, H0, O, ρ, _, (S.ext e1).ext e2, noOw_r (noOw_r es), hd, fun d3 v3 H3 hd e3 bc _ => ?_⟩
    obtain ⟨kk, hk, hd⟩ := wbind hd
    rw [int_some hk] at bc
    obtain ⟨ho, hd'⟩ := wite hd
    rw [Bool.and_eq_true, beq_iff_eq] at ho
    obtain ⟨ho, rfl⟩ := ho
    obtain ⟨k0, k01, k1, k2, k3⟩ := okR_of ho
    refine ⟨i, j, -1, (i - j).toNat, by rw [ba.int, bb.int, bc.int], RgC.neg k1 k2 k0 k01, q _ _ H3 hd' ?_ ((e1.trans e2).trans e3) (wk_rngD X.K i j _)⟩
    simpa [rngD, LINE] using k3
/-! a list or a tuple -/
theorem pi_seq {tg l : Expr} {tl : TE} (hl : PE X l tl) : PI X tg l (fun σ H R => tl σ H fun v H1 => ∃ a xs, v = .ref a ∧ ((SqL X.K H1 a xs ∧ (xs.length ≤ sizeLine → R (Itl X.K a) H1)) ∨ (SqT X.K H1 a xs ∧ (xs.length ≤ sizeLine → R (Itt X.K a) H1)))) := by
  refine ⟨fun pins s σ H R I q => ?_⟩
  refine thn (hl.run pins s σ H _ I q) fun w s1 ⟨v, H1, I1, rv, a, xs, ev, q1⟩ => ?_
  subst ev
  cases rv
  have ap : ∀ b, b ∈ [s1.heap.objs.size] → FpOk X pins H1 b := fun b hb => by
    rw [List.mem_singleton.mp hb]
    exact I1.fpOk (Nat.le_refl _) (I1.hok.fresh (Nat.le_refl _))
  rcases q1 with ⟨hs, q1⟩ | ⟨hs, q1⟩
  · obtain ⟨us, ru, pl, hz⟩ := I1.list hs
    exact wpAny_pyIter_list pl.isList ⟨_, [s1.heap.objs.size], _, _, H1, rfl, I1.kept (t' := s1.toks) (fun b o e => Heap.get?_push_of_some _ e), turn_list a _, ⟨_, Heap.get?_push_size _ rfl, rfl, rfl⟩, ap, q1 hz⟩
  · obtain ⟨us, ru, pl, hz⟩ := I1.tuple hs
    exact wpAny_pyIter_tuple (show s1.heap.IsTuple a us.toArray from pl) ⟨_, [s1.heap.objs.size], _, _, H1, rfl, I1.kept (t' := s1.toks) (fun b o e => Heap.get?_push_of_some _ e), turn_tuple a _, ⟨_, Heap.get?_push_size _ rfl, rfl, rfl⟩, ap, q1 hz⟩
theorem wk_list {K : PySem.W.Frag} {aa : Addr} {vs : List V} {ds : List D} {O : List Addr} {H1 : Hp} {G : List Addr → Hp → Prop} (r : Rps K (hid O H1) vs ds) (hs : ∀ O' H', G O' H' → SqL K H' aa vs ∧ Le (hid O H1) (hid O' H')) : Wk K (Itl K aa) ds G := fun O' H' hG n => by
  obtain ⟨h1, h2⟩ := hs O' H' hG
  refine ⟨fun d hd => ?_, fun h => ⟨vs, h1, by rw [r.length]; exact h⟩⟩
  obtain ⟨v, hv, rv⟩ := r.getD hd
  refine ⟨⟨vs, v, h1, hv⟩, fun x H'' hy => ?_⟩
  obtain ⟨rfl, hy⟩ := hy
  have e := hy vs h1
  rw [hv] at e
  cases e
  exact ⟨Le.refl _, rv.mono h2⟩
end
end PV

set_option maxHeartbeats 4000000
/-! PV: sorted(set(xs)), len(set(xs)) of ints. -/
namespace PV
open PySem L2 RZ PyProof.Rows
theorem setR_count {w : World} {h : Heap} {a : Addr} {ns : List Int} {c : Nat} (R : SetR w h a (fun j => decide (j ∈ ns)) c) : c = (uniqS ns).length := by
  obtain ⟨o, es, ep, t, _, _, _, _, nd, hm, _, _, hn, _⟩ := R
  have pm : (es.toList.map keyOf).Perm (uniqS ns) := (List.perm_ext_iff_of_nodup nd (asc_nodup _ (uniq_asc ns))).mpr fun k => by
    rw [← hm k, mem_uniq]
    simp
  have := pm.length_eq
  rw [List.length_map, Array.length_toList] at this
  omega
section
variable {P : Pm} {ct : Ct} {X : Cx} {k : Nat} {a : E} {x : Expr}
/-- set(xs), then what is asked of the set -/
theorem set_go {pins : List (Addr × Obj)} {s : Shared} {σ : L2.St} {H : Hp} {v : Value} {x' : V} {d : D} {O : List Addr} {ds : List D} {ns : List Int} {Q : Value → Shared → Prop} {E : Value → Shared → Prop} (hc : X.calm = true) (I : Inv X pins σ H s) (r1 : RelV x' v) (hbr : Br X.K O H x' d) (hi : items d = some ds) (hn : ints? ds = some ns) (hl : ns.length ≤ 1000)
    (q : ∀ (h' : Heap) (tk : Nat) (p : Addr), Inv X pins σ H { s with heap := h', toks := tk } → SetR X.w h' p (fun j => decide (j ∈ ns)) (uniqS ns).length → Q (.ref p) { s with heap := h', toks := tk }) :
    wpAny (model X.prog X.w) X.A (call (.type "set") [v]) Q E s := by
  obtain ⟨p, vs, e1, r, h⟩ := hbr.items hi
  have e2 := r.ints hn
  subst e1 e2
  cases r1
  have sb : ns.length + 1 < scanBound := by unfold scanBound; omega
  rcases h with ⟨_, h⟩ | ⟨_, h⟩
  · obtain ⟨its, rv, pl, _⟩ := I.list (.inl (.inl h))
    refine call_set_listR ns (I.ok.hd hc) pl.isList (by simpa using Vals.ints rv) sb fun g tk c R _ hk => ?_
    rw [setR_count R] at R
    exact q g tk _ (I.kept hk) R
  · obtain ⟨its, rv, pt, _⟩ := I.tuple h
    refine call_set_tupI ns (I.ok.hd hc) pt (by simpa using Vals.ints rv) sb fun g tk c R _ hk => ?_
    rw [setR_count R] at R
    exact q g tk _ (I.kept hk) R
theorem snd_sset (g : Gd P ct X k) {p p2 p3 p4 : Pos} (hg : isGl ct "sorted" = true) (hg2 : isGl ct "set" = true) (hs : notStar x = true) (ha : PE X x (tB P X.K a)) : PE X (.Call (.Name "sorted" p) [.Call (.Name "set" p2) [x] [] p3] [] p4) (tE P X.K (.bi .sset a)) := by
  refine ⟨fun pins s σ H Q I h => ?_⟩
  have h : tB P X.K a σ H (fun x H1 => rD1 X.K .sset [x] H1 Q) := bi_q h
  refine Call_ (ld_blt I (g.gl hg) (g.blt "sorted" (by decide)) boot_sorted (callWith_builtin1 (args_cons ?_ rfl) rfl rfl))
  refine Call_ (ld_blt I (g.gl hg2) (g.blt "set" (by decide)) PyProof.Rows.boot_set (callWith_type1 (args_cons (thn (ha.run pins s σ H _ I h) fun v s1 ⟨x', H1, I1, r1, q1⟩ => args_nil ?_) (star_cons hs)) (star_cons hs) rfl))
  obtain ⟨O, x0, d, z, e, dm, hbr, hz, n⟩ := q1
  obtain rfl : x' = x0 := (List.cons.inj e).1
  simp only [dBi] at hz
  cases hi : items d with
  | none => rw [hi] at hz; cases hz
  | some ds =>
    rw [hi] at hz
    cases hn : ints? ds with
    | none => simp [hn] at hz
    | some ns =>
      simp only [hn, Option.bind_some] at hz
      split at hz
      · rename_i hl
        obtain rfl := Option.some.inj hz
        refine set_go g.calm I1 r1 hbr hi hn hl.1 fun h' tk pa I2 R => args_nil ?_
        refine sorted_set R (I2.ok.hd g.calm) hl.2 fun s' q out c ms kp gg oo hp hq hI asc mem len => ?_
        have em : ms = uniqS ns := asc_eq _ _ asc (uniq_asc ns) fun j => by rw [mem j, mem_uniq]; simp
        subst em
        have fr : H1 q = none := I2.hok.fresh hp
        have nl : ((uniqS ns).map V.int).length ≤ sizeLine := by
          rw [List.length_map, sizeLine_eq]
          omega
        have J : Inv X pins σ (upd H1 q (.lst ((uniqS ns).map V.int))) s' := I2.call' (ch := []) oo (Un.laid kp hp fr) (I2.hok.laid kp hp ⟨nl, out.toList, c, vals_of_ints hI, hq⟩) (by rw [gg]; exact I2.bare) (fun _ z => nomatch z)
        refine ⟨.ref q, _, J, rfl, n.lst dm ?_ fr⟩
        have key : ∀ l : List Int, Rps X.K (hid O H1) (l.map V.int) (l.map PyData.int) := fun l => by
          induction l with
          | nil => exact .nil
          | cons y l ih => exact .cons (.int y) ih
        exact key _
      · cases hz
theorem snd_lset (g : Gd P ct X k) {p p2 p3 p4 : Pos} (hg : isGl ct "len" = true) (hg2 : isGl ct "set" = true) (hs : notStar x = true) (ha : PE X x (tB P X.K a)) : PE X (.Call (.Name "len" p) [.Call (.Name "set" p2) [x] [] p3] [] p4) (tE P X.K (.bi .lset a)) := by
  refine ⟨fun pins s σ H Q I h => ?_⟩
  have h : tB P X.K a σ H (fun x H1 => rD1 X.K .lset [x] H1 Q) := bi_q h
  refine Call_ (ld_blt I (g.gl hg) (g.blt "len" (by decide)) boot_len (callWith_builtin1 (args_cons ?_ rfl) rfl rfl))
  refine Call_ (ld_blt I (g.gl hg2) (g.blt "set" (by decide)) PyProof.Rows.boot_set (callWith_type1 (args_cons (thn (ha.run pins s σ H _ I h) fun v s1 ⟨x', H1, I1, r1, q1⟩ => args_nil ?_) (star_cons hs)) (star_cons hs) rfl))
  obtain ⟨O, x0, d, z, e, dm, hbr, hz, n⟩ := q1
  obtain rfl : x' = x0 := (List.cons.inj e).1
  simp only [dBi] at hz
  cases hi : items d with
  | none => rw [hi] at hz; cases hz
  | some ds =>
    rw [hi] at hz
    cases hn : ints? ds with
    | none => simp [hn] at hz
    | some ns =>
      simp only [hn, Option.bind_some] at hz
      split at hz
      · rename_i hl
        obtain rfl := Option.some.inj hz
        refine set_go g.calm I1 r1 hbr hi hn hl fun h' tk pa I2 R => args_nil ?_
        obtain ⟨o, es, ep, t, ho, hex, hd, _, _, _, hsb, hf, hcn, _⟩ := R
        refine call_len_set ho hex hd hf (by unfold scanBound at hsb; omega) ⟨.int (uniqS ns).length, H1, I2.tok _, ⟨_, by rw [hcn]⟩, n.int⟩
      · cases hz
theorem snd_set (g : Gd P ct X k) {bb : Bi} {nm n2 : Str} {p p2 p3 p4 : Pos} (hb : biS bb = true) (hx : (nm == biN bb) = true) (hx2 : (n2 == ("set" : Str)) = true) (hg : isGl ct nm = true) (hg2 : isGl ct n2 = true) (hs : notStar x = true) (ha : PE X x (tB P X.K a)) : PE X (.Call (.Name nm p) [.Call (.Name n2 p2) [x] [] p3] [] p4) (tE P X.K (.bi bb a)) := by
  obtain rfl : nm = biN bb := beq_iff_eq.mp hx
  obtain rfl : n2 = "set" := beq_iff_eq.mp hx2
  cases bb <;> try (cases hb; done)
  · exact snd_sset g hg hg2 hs ha
  · exact snd_lset g hg hg2 hs ha
end
end PV

set_option maxHeartbeats 4000000
/-! PV: zip of a list and a tuple: sides of any kind. -/
namespace PV
open PySem PySem.Spec PyProof.Rows L2 RZ
open PySem.Sem (wp)
/-- how one side of a zip steps -/
structure Side (it l : Addr) (P P' : Heap → Prop) (x : Option Value) : Prop where
  keep : ∀ {c : Addr} {h h' : Heap}, it ≠ c → l ≠ c → Heap.ExtBut c h h' → P h → P h'
  keep' : ∀ {c : Addr} {h h' : Heap}, it ≠ c → l ≠ c → Heap.ExtBut c h h' → P' h → P' h'
  has' : ∀ {h : Heap}, P' h → ∃ o, h.get? it = some o
  next : ∀ {pr : Program} {wd : World} {B : Around} {E Q : Value → Shared → Prop} {s : Shared} {v : Value}, x = some v → P s.heap → (∀ g, P' g → Heap.SameBut it s.heap g → Q v { s with heap := g }) → wpAny (model pr wd) B (Builtin.SmallTypes.nextOf (.ref it)) Q E s
  stop : ∀ {pr : Program} {wd : World} {B : Around} {E Q : Value → Shared → Prop} {s : Shared}, x = none → B.handled = none → P s.heap → (∀ g e, Heap.ExtBut it s.heap g → (∃ o, g.get? e = some o ∧ o.cls = .type "StopIteration") → E (.ref e) { s with heap := g }) → wpAny (model pr wd) B (Builtin.SmallTypes.nextOf (.ref it)) Q E s
theorem side_list {it l : Addr} {i : Nat} {xs : Array Value} (ne : l ≠ it) : Side it l (fun h => h.IsListIter it l i ∧ h.IsList l xs) (fun h => h.IsListIter it l (i + 1) ∧ h.IsList l xs) xs[i]? where
  keep := fun a b e p => ⟨p.1.extBut e a, p.2.extBut e b⟩
  keep' := fun a b e p => ⟨p.1.extBut e a, p.2.extBut e b⟩
  has' := fun p => p.1.imp fun _ q => q.1
  next := fun hx p k => wpAny_nextOf_list_item p.1 p.2 hx fun g q sb => k g ⟨q, p.2.extBut sb.extBut ne⟩ sb
  stop := fun hx hh p k => wpAny_nextOf_list_end hh p.1 p.2 hx k
theorem side_tuple {it l : Addr} {i : Nat} {xs : Array Value} (ne : l ≠ it) : Side it l (fun h => h.IsTupleIter it l i ∧ h.IsTuple l xs) (fun h => h.IsTupleIter it l (i + 1) ∧ h.IsTuple l xs) xs[i]? where
  keep := fun a b e p => ⟨p.1.extBut e a, p.2.extBut e b⟩
  keep' := fun a b e p => ⟨p.1.extBut e a, p.2.extBut e b⟩
  has' := fun p => p.1.imp fun _ q => q.1
  next := fun hx p k => nextOf_tuple_item p.1 p.2 hx fun g q sb => k g ⟨q, p.2.extBut sb.extBut ne⟩ sb
  stop := fun hx hh p k => nextOf_tuple_end hh p.1 p.2 hx k
section
variable {pr : Program} {wd : World} {B : Around} {E : Value → Shared → Prop} {s : Shared}
variable {z ti out ia ib la lb : Addr} {Pa Pa' Pb Pb' : Heap → Prop} {ox oy : Option Value} {x y p q : Value}
/-- the next pair of any two sides -/
theorem sides_item {Q : Value → Shared → Prop} (D : ZipApart z ti out ia ib la lb) (Sa : Side ia la Pa Pa' (some x)) (Sb : Side ib lb Pb Pb' (some y))
    (e1 : IsZip s.heap z ti out .none) (e2 : IsPair s.heap ti (.ref ia) (.ref ib)) (e3 : IsPair s.heap out p q) (pa : Pa s.heap) (pb : Pb s.heap)
    (k : ∀ g, IsZip g z ti out (rawInt s.heap.objs.size) → IsPair g out x y → Pa' g → Pb' g → IsPair g s.heap.objs.size x y → g.objs.size = s.heap.objs.size + 1 → (∀ c o, c ≠ z → c ≠ out → c ≠ ia → c ≠ ib → s.heap.get? c = some o → g.get? c = some o) → Q (.ref s.heap.objs.size) { s with heap := g }) :
    wpAny (model pr wd) B (Builtin.«zip.__next__» ⟨[.ref z], []⟩) (fun f s' => ∃ v, f = .done (.ret v) ∧ Q v s') E s := by
  show wpAny _ _ (field (.ref z) 2 >>= _) _ _ _; refine wpAny_bind (wpAny_field e1 rfl (x := .bool false) rfl ?_)
  show wpAny _ _ (field (.ref z) 3 >>= _) _ _ _; refine wpAny_bind (wpAny_field e1 rfl (x := .ref ti) rfl (wpAny_bind (wpAny_seqItems e2 rfl ?_)))
  show wpAny _ _ (Builtin.SmallTypes.ownedTupleIsFree (.ref z) >>= _) _ _ _; refine wpAny_bind ?_
  unfold Builtin.SmallTypes.ownedTupleIsFree; refine wpAny_bind (wpAny_field e1 rfl (x := .none) rfl (wpAny_pure ?_))
  simp only [if_true]; refine wpAny_bind (wpAny_rule (wpAny_bind (wpAny_field e1 rfl (x := .ref out) rfl (wpAny_bind (wpAny_setField_rec e1 (by simp) fun ga za sa => ?_)))))
  have za : IsZip ga z ti out .ellipsis := za; refine wpAny_bind ?_
  simp only [List.zipIdx_cons, List.zipIdx_nil, List.forIn_cons, List.forIn_nil]; refine wpAny_bind (wpAny_bind (wpAny_onRaise ?_))
  show wpAny _ _ (Builtin.SmallTypes.nextOf (.ref ia) >>= _) _ _ _; refine wpAny_bind (Sa.next rfl (Sa.keep D.i1z D.l1z sa.extBut pa) fun gb pa2 sb => wpAny_pure ?_)
  have ob : IsPair gb out p q := sb.extBut _ _ D.TOi1 (sa.extBut _ _ D.TOz e3)
  refine wpAny_bind (wpAny_seqItems ob rfl (wpAny_bind (wpAny_updateSeq_pair ob fun gc oc sc => ?_)))
  have oc : IsPair gc out x q := oc; refine wpAny_bind (wpAny_letGo (wpAny_pure (wpAny_bind (wpAny_bind (wpAny_onRaise ?_)))))
  show wpAny _ _ (Builtin.SmallTypes.nextOf (.ref ib) >>= _) _ _ _
  refine wpAny_bind (Sb.next rfl (Sb.keep D.TOi2.symm D.l2TO sc.extBut (Sb.keep D.i12.symm D.l2i1 sb.extBut (Sb.keep D.i2z D.l2z sa.extBut pb))) fun gd pb2 sd => wpAny_pure ?_)
  have od : IsPair gd out x q := sd.extBut _ _ D.TOi2 oc
  refine wpAny_bind (wpAny_seqItems od rfl (wpAny_bind (wpAny_updateSeq_pair od fun ge oe se => ?_)))
  have oe : IsPair ge out x y := oe; refine wpAny_bind (wpAny_letGo (wpAny_pure (wpAny_pure (wpAny_bind (wpAny_seqItems oe rfl (wpAny_bind (wpAny_newTuple ?_)))))))
  have hn : ge.objs.size = s.heap.objs.size := by rw [se.1, sd.1, sc.1, sb.1, sa.1]
  have ze : IsZip ge z ti out .ellipsis := se.extBut _ _ D.TOz.symm (sd.extBut _ _ D.i2z.symm (sc.extBut _ _ D.TOz.symm (sb.extBut _ _ D.i1z.symm za)))
  have ke : ∀ c o, c ≠ z → c ≠ out → c ≠ ia → c ≠ ib → s.heap.get? c = some o → ge.get? c = some o := fun c o n1 n2 n3 n4 e => se.extBut _ _ n2 (sd.extBut _ _ n4 (sc.extBut _ _ n2 (sb.extBut _ _ n3 (sa.extBut _ _ n1 e))))
  have pa3 : Pa' ge := Sa.keep' D.TOi1.symm D.l1TO se.extBut (Sa.keep' D.i12 D.l1i2 sd.extBut (Sa.keep' D.TOi1.symm D.l1TO sc.extBut pa2))
  have pb3 : Pb' ge := Sb.keep' D.TOi2.symm D.l2TO se.extBut pb2
  have zl : z < ge.objs.size := Heap.lt_size ze
  show wpAny _ _ (Builtin.SmallTypes.ownedTupleHandOut (.ref z) (.ref ge.objs.size) >>= _) _ _ _; refine wpAny_bind ?_
  have zf : IsZip (ge.push { cls := .type "tuple", data := .seq #[x, y] }) z ti out .ellipsis := Heap.get?_push_of_some _ ze
  unfold Builtin.SmallTypes.ownedTupleHandOut; refine wpAny_bind (wpAny_setField_rec zf (by simp) fun gg zg sg => ?_)
  have zg : IsZip gg z ti out (rawInt ge.objs.size) := zg; refine wpAny_setField_rec zg (by simp) fun gh zh sh => ?_
  have zh : IsZip gh z ti out (rawInt ge.objs.size) := zh
  have up : Heap.ExtBut z ge gh := fun c o n e => sh.extBut _ _ n (sg.extBut _ _ n (Heap.get?_push_of_some _ e))
  have th : IsPair gh ge.objs.size x y := sh.extBut _ _ (Nat.ne_of_gt zl) (sg.extBut _ _ (Nat.ne_of_gt zl) (Heap.get?_push_size _ rfl))
  have hn2 : gh.objs.size = ge.objs.size + 1 := by rw [sh.1, sg.1, Heap.size_push]
  rw [hn] at zh th hn2
  refine wpAny_pure ⟨_, rfl, ?_⟩
  show Q (.ref ge.objs.size) _; rw [hn]
  exact k gh zh (up _ _ D.TOz oe) (Sa.keep' D.i1z D.l1z up pa3) (Sb.keep' D.i2z D.l2z up pb3) th hn2 fun c o n1 n2 n3 n4 e => up c o n1 (ke c o n1 n2 n3 n4 e)
/-- the end of any two sides -/
theorem sides_end {Q : Fin → Shared → Prop} (hh : B.handled = none) (D : ZipApart z ti out ia ib la lb) (Sa : Side ia la Pa Pa' ox) (Sb : Side ib lb Pb Pb' oy)
    (e1 : IsZip s.heap z ti out .none) (e2 : IsPair s.heap ti (.ref ia) (.ref ib)) (e3 : IsPair s.heap out p q) (pa : Pa s.heap) (pb : Pb s.heap) (en : ox = none ∨ oy = none)
    (k : ∀ g e, (∀ c o, c ≠ z → c ≠ out → c ≠ ia → c ≠ ib → s.heap.get? c = some o → g.get? c = some o) → (∃ o, g.get? e = some o ∧ o.cls = .type "StopIteration") → E (.ref e) { s with heap := g }) :
    wpAny (model pr wd) B (Builtin.«zip.__next__» ⟨[.ref z], []⟩) Q E s := by
  show wpAny _ _ (field (.ref z) 2 >>= _) _ _ _; refine wpAny_bind (wpAny_field e1 rfl (x := .bool false) rfl ?_)
  show wpAny _ _ (field (.ref z) 3 >>= _) _ _ _; refine wpAny_bind (wpAny_field e1 rfl (x := .ref ti) rfl (wpAny_bind (wpAny_seqItems e2 rfl ?_)))
  show wpAny _ _ (Builtin.SmallTypes.ownedTupleIsFree (.ref z) >>= _) _ _ _; refine wpAny_bind ?_
  unfold Builtin.SmallTypes.ownedTupleIsFree; refine wpAny_bind (wpAny_field e1 rfl (x := .none) rfl (wpAny_pure ?_))
  simp only [if_true]; refine wpAny_bind (wpAny_rule (wpAny_bind (wpAny_field e1 rfl (x := .ref out) rfl (wpAny_bind (wpAny_setField_rec e1 (by simp) fun ga za sa => ?_)))))
  have za : IsZip ga z ti out .ellipsis := za; refine wpAny_bind ?_
  simp only [List.zipIdx_cons, List.zipIdx_nil, List.forIn_cons, List.forIn_nil]; refine wpAny_bind (wpAny_bind (wpAny_onRaise ?_))
  have last : ∀ (i : Addr) (gy gz : Heap) (e : Addr), i ≠ z → IsZip gy z ti out .ellipsis → (∀ c o, c ≠ z → c ≠ out → c ≠ ia → c ≠ ib → s.heap.get? c = some o → gy.get? c = some o) → (i = ia ∨ i = ib) → Heap.ExtBut i gy gz → (∃ o, gz.get? e = some o ∧ o.cls = .type "StopIteration") → ∀ {m : Value}, ∀ gw, Heap.SameBut z gz gw → IsZip gz z ti out .ellipsis → E (.ref e) { s with heap := gw } := by
    intro i gy gz e hi hy ky hc xz he m gw sw hz
    obtain ⟨oe, h1, h2⟩ := he
    have ez : e ≠ z := fun h => by rw [h, hz] at h1; cases h1; simp at h2
    refine k gw e (fun c o n1 n2 n3 n4 g => sw.extBut _ _ n1 (xz _ _ ?_ (ky c o n1 n2 n3 n4 g))) ⟨oe, sw.extBut _ _ ez h1, h2⟩
    rcases hc with h | h
    · rw [h]; exact n3
    · rw [h]; exact n4
  show wpAny _ _ (Builtin.SmallTypes.nextOf (.ref ia) >>= _) _ _ _
  cases ox with
  | none =>
    refine wpAny_bind (Sa.stop rfl hh (Sa.keep D.i1z D.l1z sa.extBut pa) fun gb e sb he => ?_)
    have zb : IsZip gb z ti out .ellipsis := sb _ _ D.i1z.symm za
    exact wpAny_setField_rec zb (by simp) fun gc _ sc => last ia ga gb e D.i1z za (fun c o n1 _ _ _ g => sa.extBut _ _ n1 g) (.inl rfl) sb he (m := .none) gc sc zb
  | some x =>
    have hy : oy = none := by
      rcases en with h | h
      · cases h
      · exact h
    refine wpAny_bind (Sa.next rfl (Sa.keep D.i1z D.l1z sa.extBut pa) fun gb pa2 sb => wpAny_pure ?_)
    have ob : IsPair gb out p q := sb.extBut _ _ D.TOi1 (sa.extBut _ _ D.TOz e3)
    refine wpAny_bind (wpAny_seqItems ob rfl (wpAny_bind (wpAny_updateSeq_pair ob fun gc oc sc => ?_)))
    refine wpAny_bind (wpAny_letGo (wpAny_pure (wpAny_bind (wpAny_bind (wpAny_onRaise ?_)))))
    show wpAny _ _ (Builtin.SmallTypes.nextOf (.ref ib) >>= _) _ _ _
    refine wpAny_bind (Sb.stop hy hh (Sb.keep D.TOi2.symm D.l2TO sc.extBut (Sb.keep D.i12.symm D.l2i1 sb.extBut (Sb.keep D.i2z D.l2z sa.extBut pb))) fun gd e sd he => ?_)
    have zc : IsZip gc z ti out .ellipsis := sc.extBut _ _ D.TOz.symm (sb.extBut _ _ D.i1z.symm za)
    have zd : IsZip gd z ti out .ellipsis := sd _ _ D.i2z.symm zc
    exact wpAny_setField_rec zd (by simp) fun ge _ se => last ib gc gd e D.i2z zc (fun c o n1 n2 n3 _ g => sc.extBut _ _ n2 (sb.extBut _ _ n3 (sa.extBut _ _ n1 g))) (.inr rfl) sd he (m := .none) ge se zd
theorem sides_next {Q : Option Value → Shared → Prop} (D : ZipApart z ti out ia ib la lb) (Sa : Side ia la Pa Pa' (some x)) (Sb : Side ib lb Pb Pb' (some y))
    (e1 : IsZip s.heap z ti out .none) (e2 : IsPair s.heap ti (.ref ia) (.ref ib)) (e3 : IsPair s.heap out p q) (pa : Pa s.heap) (pb : Pb s.heap)
    (k : ∀ g, IsZip g z ti out (rawInt s.heap.objs.size) → IsPair g out x y → Pa' g → Pb' g → IsPair g s.heap.objs.size x y → g.objs.size = s.heap.objs.size + 1 → (∀ c o, c ≠ z → c ≠ out → c ≠ ia → c ≠ ib → s.heap.get? c = some o → g.get? c = some o) → Q (some (.ref s.heap.objs.size)) { s with heap := g }) :
    wpAny (model pr wd) B (pyNext (.ref z)) Q E s := by
  have ty : s.TypeIs (.ref z) "zip" := ⟨_, e1, rfl⟩
  unfold pyNext
  refine wpAny_bind (wpAny_attempt (wpAny_callSpecial?_slot (name := Str.ofString "__next__") ty F.slot_zip_next (wpAny_call_entry F.slot_zip_next ty F.entry_zip_next ?_ (F.args_zip_next_1 _))))
  exact sides_item D Sa Sb e1 e2 e3 pa pb fun g a1 a2 a3 a4 a5 a6 a7 => wpAny_pure (k g a1 a2 a3 a4 a5 a6 a7)
theorem sides_done {Q : Option Value → Shared → Prop} (hh : B.handled = none) (D : ZipApart z ti out ia ib la lb) (Sa : Side ia la Pa Pa' ox) (Sb : Side ib lb Pb Pb' oy)
    (e1 : IsZip s.heap z ti out .none) (e2 : IsPair s.heap ti (.ref ia) (.ref ib)) (e3 : IsPair s.heap out p q) (pa : Pa s.heap) (pb : Pb s.heap) (en : ox = none ∨ oy = none)
    (k : ∀ g, (∀ c o, c ≠ z → c ≠ out → c ≠ ia → c ≠ ib → s.heap.get? c = some o → g.get? c = some o) → Q none { s with heap := g }) : wpAny (model pr wd) B (pyNext (.ref z)) Q E s := by
  have ty : s.TypeIs (.ref z) "zip" := ⟨_, e1, rfl⟩
  unfold pyNext
  refine wpAny_bind (wpAny_attempt (wpAny_callSpecial?_slot (name := Str.ofString "__next__") ty F.slot_zip_next (wpAny_call_entry F.slot_zip_next ty F.entry_zip_next (sides_end hh D Sa Sb e1 e2 e3 pa pb en fun g e kp he => ?_) (F.args_zip_next_1 _))))
  obtain ⟨o, h1, h2⟩ := he
  exact wpAny_bind (wpAny_isInstance (T := "StopIteration") (b := true) ⟨o, h1, h2⟩ isSubtype_stop (wpAny_pure (k _ kp)))
end
end PV

set_option maxHeartbeats 4000000
/-! PV: zip of a list and a tuple, as a turn and as a call. -/
namespace PV
open PySem PySem.Spec PyProof.Rows L2 RZ
open PySem.Sem (wp)
/-- the list at a and the tuple at b, in new pairs -/
def ItzM (K : PySem.W.Frag) (a b : Addr) : It where
  go := fun i H => ∃ (vs ws : List V) (v w : V), SqL K H a vs ∧ SqT K H b ws ∧ vs[i]? = some v ∧ ws[i]? = some w
  yld := fun i H r H' => ∃ N v w, r = .ref N ∧ H N = none ∧ H' = upd H N (.tup [v, w]) ∧ (∀ vs, SqL K H a vs → vs[i]? = some v) ∧ ∀ ws, SqT K H b ws → ws[i]? = some w
  stop := fun i H => ∃ vs ws : List V, SqL K H a vs ∧ SqT K H b ws ∧ (vs.length ≤ i ∨ ws.length ≤ i)
theorem five {z ti out ia ib c : Addr} (h : c ∈ [z, ti, out, ia, ib]) : c = z ∨ c = ti ∨ c = out ∨ c = ia ∨ c = ib := by simpa using h
theorem turn_zipM {P : Program} {w : World} {K : PySem.W.Frag} {es : List Expr} {kk : Nat} {tp : Pos} {a b z ti out ia ib : Addr} (D : ZipApart z ti out ia ib a b) :
    Turn P w K (.Tuple es kk tp) (ItzM K a b) [z, ti, out, ia, ib] z (fun i h => IsZip h z ti out .none ∧ IsPair h ti (.ref ia) (.ref ib) ∧ (∃ x y, IsPair h out x y) ∧ h.IsListIter ia a i ∧ h.IsTupleIter ib b i) where
  mem := by simp
  obj := fun i h q c hc => by
    obtain ⟨q1, q2, ⟨x, y, q3⟩, ⟨o1, f1, _, d1⟩, ⟨o2, f2, _, d2⟩⟩ := q
    rcases five hc with e | e | e | e | e <;> subst e
    · exact ⟨_, q1, fun v r => nomatch r⟩
    · exact ⟨_, q2, fun v r => nomatch r⟩
    · exact ⟨_, q3, fun v r => nomatch r⟩
    · exact ⟨o1, f1, fun v r => by rw [d1] at r; cases r⟩
    · exact ⟨o2, f2, fun v r => by rw [d2] at r; cases r⟩
  keep := fun i h g q k => by
    obtain ⟨q1, q2, ⟨x, y, q3⟩, q4, q5⟩ := q
    refine ⟨k z (by simp) _ q1, k ti (by simp) _ q2, ⟨x, y, k out (by simp) _ q3⟩, q4.at fun o r => ?_, q5.at fun o r => ?_⟩
    · exact k ia (by simp) o r
    · exact k ib (by simp) o r
  item := by
    intro X e1 e2 e3 hc i pins s σ H E I hf q hg
    subst e1 e2 e3
    obtain ⟨q1, q2, ⟨x0, y0, q3⟩, q4, q5⟩ := q
    obtain ⟨vs, ws, v, u, sv, sw, hv, hu⟩ := hg
    obtain ⟨ls, rv, pv, _⟩ := I.list sv
    obtain ⟨lt, rw', pt, _⟩ := I.tuple sw
    obtain ⟨m, hm, rm⟩ := rv.get hv
    obtain ⟨n, hn, rn⟩ := rw'.get hu
    have zl : z < s.heap.objs.size := Heap.lt_size q1
    have em : ls.toArray[i]? = some m := by simpa using hm
    have en : lt.toArray[i]? = some n := by simpa using hn
    have Sa := side_list (it := ia) (l := a) (i := i) (xs := ls.toArray) D.l1i1
    have Sb := side_tuple (it := ib) (l := b) (i := i) (xs := lt.toArray) D.l2i2
    rw [em] at Sa
    rw [en] at Sb
    refine sides_next D Sa Sb q1 q2 q3 ⟨q4, pv.isList⟩ ⟨q5, pt⟩ fun g z1 o1 pa pb nw _ hk => ⟨_, rfl, wpAny_letOwnedTupleGo_zip (s := { s with heap := g }) z1 fun g2 z2 sb => ?_⟩
    have nw2 : g2.get? s.heap.objs.size = some { cls := .type "tuple", data := .seq #[m, n] } := (sb.2 _ (Nat.ne_of_gt zl)).trans nw
    have ok : ObjOk X.prog X.w (upd H s.heap.objs.size (.tup [v, u])) g2 s.heap.objs.size (.tup [v, u]) := ⟨by show 2 ≤ sizeLine; decide, [m, n], .cons rm (.cons rn .nil), ⟨_, nw2, rfl, _, rfl⟩⟩
    have kp : ∀ c o, c ∉ [z, ti, out, ia, ib] → s.heap.get? c = some o → g2.get? c = some o := fun c o nb r => by
      have nb := (not_congr (show c ∈ [z, ti, out, ia, ib] ↔ c = z ∨ c = ti ∨ c = out ∨ c = ia ∨ c = ib by simp)).mp nb
      simp only [not_or] at nb
      exact (sb.2 _ nb.1).trans (hk c o nb.1 nb.2.2.1 nb.2.2.2.1 nb.2.2.2.2 r)
    have I1 := I.turnedNew (t' := s.toks) (ch := [z, ti, out, ia, ib]) kp hf (Nat.le_refl _) ok
    refine ⟨.ref s.heap.objs.size, _, I1, rfl, ⟨_, v, u, rfl, I.hok.fresh (Nat.le_refl _), rfl, fun l hl => ?_, fun l hl => ?_⟩, ⟨z2, ?_, ⟨m, n, ?_⟩, ?_, ?_⟩, fun c hcm => ?_⟩
    · rw [I.list_inj hl sv]; exact hv
    · rw [I.tuple_inj hl sw]; exact hu
    · exact (sb.2 _ D.TIz).trans (hk _ _ D.TIz D.TITO D.TIi1 D.TIi2 q2)
    · exact (sb.2 _ D.TOz).trans o1
    · exact pa.1.at fun o r => (sb.2 _ D.i1z).trans r
    · exact pb.1.at fun o r => (sb.2 _ D.i2z).trans r
    · have lc : c < s.heap.objs.size := by
        rcases five hcm with e | e | e | e | e <;> rw [e]
        · exact zl
        · exact Heap.lt_size q2
        · exact Heap.lt_size q3
        · obtain ⟨_, r, _⟩ := q4; exact Heap.lt_size r
        · obtain ⟨_, r, _⟩ := q5; exact Heap.lt_size r
      rw [upd_ne (Nat.ne_of_lt lc)]
      exact (hf c hcm).1
  done := by
    intro X e1 e2 e3 hc i pins s σ H E I hf q hg
    subst e1 e2 e3
    obtain ⟨q1, q2, ⟨x0, y0, q3⟩, q4, q5⟩ := q
    obtain ⟨vs, ws, sv, sw, hend⟩ := hg
    obtain ⟨ls, rv, pv, _⟩ := I.list sv
    obtain ⟨lt, rw', pt, _⟩ := I.tuple sw
    have n1 := rv.length
    have n2 := rw'.length
    have en : ls.toArray[i]? = none ∨ lt.toArray[i]? = none := by
      rcases hend with r | r
      · left; simp; omega
      · right; simp; omega
    refine sides_done (I.ok.hd hc) D (side_list (i := i) D.l1i1) (side_tuple (i := i) D.l2i2) q1 q2 q3 ⟨q4, pv.isList⟩ ⟨q5, pt⟩ en fun g hk => ⟨rfl, I.turnedL (t' := s.toks) (ch := [z, ti, out, ia, ib]) (fun c o nb r => ?_) hf⟩
    have nb := (not_congr (show c ∈ [z, ti, out, ia, ib] ↔ c = z ∨ c = ti ∨ c = out ∨ c = ia ∨ c = ib by simp)).mp nb
    simp only [not_or] at nb
    exact hk c o nb.1 nb.2.2.1 nb.2.2.2.1 nb.2.2.2.2 r
  self := fun A i s Q E q h => wpAny_pyIter_zip q.1 h
/-! the heap after zip(..) of a list and a tuple -/
def zo (c : String) (fs : Array Value) : Obj := { cls := .type c, data := .fields fs }
def zs (xs : Array Value) : Obj := { cls := .type "tuple", data := .seq xs }
def zm1 (h : Heap) (a : Addr) : Heap := h.push { cls := .type "list_iterator", data := .fields #[.ref a, .int 0 0] }
def zm2 (h : Heap) (a b : Addr) : Heap := (zm1 h a).push { cls := .type "tuple_iterator", data := .fields #[.ref b, .int 0 0] }
def zm3 (h : Heap) (a b : Addr) : Heap := (zm2 h a b).push (zs #[.ref h.objs.size, .ref (zm1 h a).objs.size])
def zm4 (h : Heap) (a b : Addr) : Heap := (zm3 h a b).push (zs #[.none, .none])
def zm5 (h : Heap) (a b : Addr) : Heap := (zm4 h a b).push (zo "zip" #[.none, .bool false, .bool false, .ref (zm2 h a b).objs.size, .ref (zm3 h a b).objs.size])
theorem meets_zipM (a b : Addr) (xs ys : Array Value) :
    Meets (Builtin.«zip.__new__» ⟨[.type "zip", .ref a, .ref b], []⟩) (fun _ R s => s.heap.IsList a xs ∧ s.heap.IsTuple b ys ∧ R (.ok (.ret (.ref (zm4 s.heap a b).objs.size))) { s with heap := zm5 s.heap a b }) :=
  .of_wp fun pr wd A R s k => by
    obtain ⟨hp, gg, dd, tk, os⟩ := s
    obtain ⟨ha, hb, k⟩ := k
    have sub := sub_zip
    have la : Heap.IsList (Shared.heap ⟨hp, gg, dd, tk, os⟩) a xs := ha
    have lb : Heap.IsTuple (Shared.heap ⟨hp.push { cls := .type "list_iterator", data := .fields #[.ref a, .int 0 0] }, gg, dd, tk, os⟩) b ys := Heap.IsTuple.push hb _
    wp_walk using wpAny_pyIter_list la, wpAny_pyIter_tuple lb
    exact ⟨_, rfl, k⟩
section
variable {pr : Program} {wd : World} {A : Around} {E : Value → Shared → Prop} {s : Shared}
theorem call_zipM {a b : Addr} {xs ys : Array Value} {Q : Value → Shared → Prop} (ha : s.heap.IsList a xs) (hb : s.heap.IsTuple b ys)
    (k : ∀ g, IsZip g (s.heap.objs.size + 4) (s.heap.objs.size + 2) (s.heap.objs.size + 3) .none → IsPair g (s.heap.objs.size + 2) (.ref s.heap.objs.size) (.ref (s.heap.objs.size + 1)) → IsPair g (s.heap.objs.size + 3) .none .none → g.IsListIter s.heap.objs.size a 0 → g.IsTupleIter (s.heap.objs.size + 1) b 0 → (∀ c o, s.heap.get? c = some o → g.get? c = some o) → Q (.ref (s.heap.objs.size + 4)) { s with heap := g }) :
    wpAny (model pr wd) A (call (.type "zip") [.ref a, .ref b]) Q E s := by
  refine callType_new F.called_zip (by decide) (F.typeCall_zip_2 _ _) (F.newCall_zip_2 _ _) (fun obj => F.args_object_init_3 obj _ _) F.entry_zip_new (meets_zipM a b xs ys) ⟨ha, hb, ?_⟩
  have n1 : (zm1 s.heap a).objs.size = s.heap.objs.size + 1 := Heap.size_push ..
  have n2 : (zm2 s.heap a b).objs.size = s.heap.objs.size + 2 := by unfold zm2; rw [Heap.size_push, n1]
  have n3 : (zm3 s.heap a b).objs.size = s.heap.objs.size + 3 := by unfold zm3; rw [Heap.size_push, n2]
  have n4 : (zm4 s.heap a b).objs.size = s.heap.objs.size + 4 := by unfold zm4; rw [Heap.size_push, n3]
  have up : ∀ {h : Heap} {c : Addr} {o o' : Obj}, h.get? c = some o → (h.push o').get? c = some o := fun q => Heap.get?_push_of_some _ q
  have g5 : (zm5 s.heap a b).get? (zm4 s.heap a b).objs.size = some _ := Heap.get?_push_size _ rfl
  have g4 : (zm5 s.heap a b).get? (zm3 s.heap a b).objs.size = some _ := up (Heap.get?_push_size _ rfl)
  have g3 : (zm5 s.heap a b).get? (zm2 s.heap a b).objs.size = some _ := up (up (Heap.get?_push_size _ rfl))
  have g2 : (zm5 s.heap a b).get? (zm1 s.heap a).objs.size = some _ := up (up (up (Heap.get?_push_size _ rfl)))
  have g1 : (zm5 s.heap a b).get? s.heap.objs.size = some _ := up (up (up (up (Heap.get?_push_size _ rfl))))
  show _ ∧ _
  simp only [n1, n2, n3, n4, zo, zs] at g5 g4 g3 g2 g1 ⊢
  exact ⟨⟨_, g5, rfl⟩, k _ g5 g3 g4 ⟨_, g1, rfl, rfl⟩ ⟨_, g2, rfl, rfl⟩ fun c o q => up (up (up (up (up q))))⟩
end
/-- zip of two lists, two tuples, a list and a tuple -/
def iZipM (K : PySem.W.Frag) (ta : TA) : TI := fun σ H R => ta σ H fun vs H1 => ∃ a b xs ys, vs = [.ref a, .ref b] ∧ ((SqL K H1 a xs ∧ SqL K H1 b ys ∧ R (Itz K a b) H1) ∨ (SqT K H1 a xs ∧ SqT K H1 b ys ∧ R (ItzT K a b) H1) ∨ (SqL K H1 a xs ∧ SqT K H1 b ys ∧ R (ItzM K a b) H1))
theorem pi_zipM {X : Cx} {e e2 : Expr} {ta : TA} {p pos tpos : Pos} {es : List Expr} {kk : Nat} (hg : Gl X "zip") (hm : X.mg "zip" = none) (ha : PA X [e, e2] ta)
    (hs : starEach [e, e2] X.env = (false, eval e X.env) :: starEach [e2] X.env := by rfl) (hpl : (backTo pos (starEach [e2] X.env)).any (·.1) = false := by rfl) :
    PI X (.Tuple es kk tpos) (.Call (.Name "zip" p) [e, e2] [] pos) (iZipM X.K ta) := by
  refine ⟨fun pins s σ H R I h => Call_ (ld_blt I hg hm PyProof.Rows.boot_zip (PyProof.Rows.callWith_type1 (thn (ha.run pos pins s σ H _ I h) fun us s1 ⟨vs, H1, I1, r1, q1⟩ => ?_) hs hpl))⟩
  obtain ⟨a, b, xs, ys, rfl, q1⟩ := q1
  obtain ⟨u1, us, rfl, r, r1⟩ : ∃ u1 us', us = u1 :: us' ∧ RelV (.ref a) u1 ∧ Vals [.ref b] us' := by cases r1 with | cons r rr => exact ⟨_, _, rfl, r, rr⟩
  obtain ⟨u2, rfl, r2⟩ := vals1 r1
  cases r
  cases r2
  generalize hN : s1.heap.objs.size = N
  have fr : ∀ c, c ∈ [N + 4, N + 2, N + 3, N, N + 1] → FpOk X pins H1 c := fun c hcm => by
    have le : s1.heap.objs.size ≤ c := by rw [hN]; rcases five hcm with e | e | e | e | e <;> rw [e] <;> first | exact Nat.le_add_right _ _ | exact Nat.le_refl _
    exact I1.fpOk le (I1.hok.fresh le)
  have ap : ∀ c d : Addr, c < N → d < N → ZipApart (N + 4) (N + 2) (N + 3) N (N + 1) c d := fun c d h1 h2 => PySem.W.ktu_apart N c d h1 h2
  rcases q1 with ⟨sx, sy, q⟩ | ⟨sx, sy, q⟩ | ⟨sx, sy, q⟩
  · obtain ⟨l1, _, p1, _⟩ := I1.list sx
    obtain ⟨l2, _, p2, _⟩ := I1.list sy
    refine call_zip_2 p1.isList p2.isList fun g h1 h2 h3 h4 h5 _ hk => ?_
    rw [hN] at h1 h2 h3 h4 h5 ⊢
    exact wpAny_pyIter_zip h1 ⟨N + 4, [N + 4, N + 2, N + 3, N, N + 1], _, _, H1, rfl, I1.kept (t' := s1.toks) hk, turn_zip (ap a b (hN ▸ p1.lt) (hN ▸ p2.lt)), ⟨h1, h2, ⟨_, _, h3⟩, h4, h5⟩, fr, q⟩
  · obtain ⟨l1, _, p1, _⟩ := I1.tuple sx
    obtain ⟨l2, _, p2, _⟩ := I1.tuple sy
    obtain ⟨o1, f1, _⟩ := id p1
    obtain ⟨o2, f2, _⟩ := id p2
    refine call_zipT (show s1.heap.IsTuple a l1.toArray from p1) (show s1.heap.IsTuple b l2.toArray from p2) fun g h1 h2 h3 h4 h5 _ hk => ?_
    rw [hN] at h1 h2 h3 h4 h5 ⊢
    exact wpAny_pyIter_zip h1 ⟨N + 4, [N + 4, N + 2, N + 3, N, N + 1], _, _, H1, rfl, I1.kept (t' := s1.toks) hk, turn_zipT (ap a b (hN ▸ Heap.lt_size f1) (hN ▸ Heap.lt_size f2)), ⟨h1, h2, ⟨_, _, h3⟩, h4, h5⟩, fr, q⟩
  · obtain ⟨l1, _, p1, _⟩ := I1.list sx
    obtain ⟨l2, _, p2, _⟩ := I1.tuple sy
    obtain ⟨o2, f2, _⟩ := id p2
    refine call_zipM p1.isList (show s1.heap.IsTuple b l2.toArray from p2) fun g h1 h2 h3 h4 h5 hk => ?_
    rw [hN] at h1 h2 h3 h4 h5 ⊢
    exact wpAny_pyIter_zip h1 ⟨N + 4, [N + 4, N + 2, N + 3, N, N + 1], _, _, H1, rfl, I1.kept (t' := s1.toks) hk, turn_zipM (ap a b (hN ▸ p1.lt) (hN ▸ Heap.lt_size f2)), ⟨h1, h2, ⟨_, _, h3⟩, h4, h5⟩, fr, q⟩
end PV

set_option maxHeartbeats 4000000
/-! PV: sources that are lists or tuples, zip; targets; blocks. -/
namespace PV
open PySem L2 RZ

theorem wk_tup {K : PySem.W.Frag} {aa : Addr} {vs : List V} {ds : List D} {O : List Addr} {H1 : Hp} {G : List Addr → Hp → Prop} (r : Rps K (hid O H1) vs ds) (hs : ∀ O' H', G O' H' → SqT K H' aa vs ∧ Le (hid O H1) (hid O' H')) : Wk K (Itt K aa) ds G := fun O' H' hG n => by
  obtain ⟨h1, h2⟩ := hs O' H' hG
  refine ⟨fun d hd => ?_, fun h => ⟨vs, h1, by rw [r.length]; exact h⟩⟩
  obtain ⟨v, hv, rv⟩ := r.getD hd
  refine ⟨⟨vs, v, h1, hv⟩, fun x H'' hy => ?_⟩
  obtain ⟨rfl, hy⟩ := hy
  have e := hy vs h1
  rw [hv] at e
  cases e
  exact ⟨Le.refl _, rv.mono h2⟩
theorem zip_get : ∀ {xs ys : List D} {n : Nat} {d : D}, (zip2 xs ys)[n]? = some d → ∃ x y, xs[n]? = some x ∧ ys[n]? = some y ∧ d = .tuple [x, y]
  | [], _, _, _, h => by simp [zip2] at h
  | _ :: _, [], _, _, h => by simp [zip2] at h
  | x :: xs, y :: ys, 0, d, h => ⟨x, y, rfl, rfl, by
    have h : some (PyData.tuple [x, y]) = some d := by simpa [zip2] using h
    exact (Option.some.inj h).symm⟩
  | x :: xs, y :: ys, n + 1, d, h => zip_get (xs := xs) (ys := ys) (n := n) (by
    have h : ((xs.zip ys).map fun p => PyData.tuple [p.1, p.2])[n]? = some d := by simpa [zip2] using h
    exact h)
theorem zip_len (xs ys : List D) : (zip2 xs ys).length = min xs.length ys.length := by simp [zip2]
/-- a value that a loop may walk: its items stay where G holds -/
def SrcV (K : PySem.W.Frag) (G : List Addr → Hp → Prop) (O : List Addr) (H1 : Hp) (v : V) (d : D) (ds : List D) : Prop := ∃ a vs, v = .ref a ∧ Rps K (hid O H1) vs ds ∧
  ((d = .list ds ∧ SqL K H1 a vs ∧ ∀ O' H', G O' H' → SqL K H' a vs ∧ Le (hid O H1) (hid O' H')) ∨ (d = .tuple ds ∧ SqT K H1 a vs ∧ ∀ O' H', G O' H' → SqT K H' a vs ∧ Le (hid O H1) (hid O' H')))
theorem srcv {K : PySem.W.Frag} {fz : Bool} {σ : L2.St} {ρ : Env} {O : List Addr} {H1 : Hp} {v : V} {d : D} {ds : List D} (b : Br K O H1 v d) (lo : LsOw O σ ρ v d) (rp : fz = true → Rp K (hid O H1) v d) (h : items d = some ds) : SrcV K (Gk fz σ ρ O H1) O H1 v d ds := by
  rcases items_some h with rfl | rfl
  · obtain ⟨a, vs, rfl, r, e⟩ := b.lst
    refine ⟨a, vs, rfl, r, .inl ⟨rfl, SqL.of e, fun O' H' hG => ⟨SqL.of ?_, hG.2.1⟩⟩⟩
    by_cases hm : a ∈ O
    · cases fz with
      | false => rw [hG.2.2 rfl a (lo a ds rfl rfl hm)]; exact e
      | true => cases rp rfl with | lst hs _ => exact absurd hm (hid_out hs)
    · exact hid_le O' H' _ _ (hG.2.1 _ _ (hid_in hm e))
  · obtain ⟨a, vs, rfl, r, e, rr⟩ := b.tup
    cases rr with
    | @tup a2 vs2 _ hs r2 =>
      exact ⟨a, vs2, rfl, r2, .inr ⟨rfl, (hid_le O H1).st hs, fun O' H' hG => ⟨(hid_le O' H').st (hG.2.1.st hs), hG.2.1⟩⟩⟩
section
variable {P : Pm} {ct : Ct} {X : Cx} {k : Nat} {a b c d : E} {x y z u : Expr} {pos : Pos}
def tM (P : Pm) (K : PySem.W.Frag) (fz : Bool) (c : E) : TE := fun σ H Q => ∃ O0 H0 O ρ R, Sim K P.w P.iw O0 H0 O H σ ρ ∧ NoOw (esc (!fz) c) ρ ∧ P.ev c ρ R ∧ ∀ d v H', R d → Ext P.w H H' → Br K O H' v d → LsOw O σ ρ v d → (fz = true → Rp K (hid O H') v d) → Q v H'
theorem snd_M {fz : Bool} (hE : PE X x (tE P X.K a)) (hB : PE X x (tB P X.K a)) : PE X x (tM P X.K fz a) := by
  cases fz with
  | true =>
    refine hE.imp fun σ H Q q => ?_
    obtain ⟨O0, H0, O, ρ, R, S, es, ev, q⟩ := q
    exact ⟨O0, H0, O, ρ, R, S, es, ev, fun d v H' hr he r => q d v H' hr he (.inl r.1) (fun p ds z1 z2 z3 => by subst z1; subst z2; cases r.1 with | lst hs _ => exact absurd z3 (hid_out hs)) fun _ => r.1⟩
  | false =>
    refine hB.imp fun σ H Q q => ?_
    obtain ⟨O0, H0, O, ρ, R, S, es, ev, q⟩ := q
    exact ⟨O0, H0, O, ρ, R, S, es, ev, fun d v H' hr he r lo => q d v H' hr he r lo fun z => by cases z⟩
theorem escW_val (fz : Bool) : escW fz (.val a) = esc (!fz) a := by cases fz <;> simp [escW, escF, escS]
theorem escW_zip (fz : Bool) : escW fz (.zip a b) = esc (!fz) a ++ esc (!fz) b := by cases fz <;> simp [escW, escF, escS]
theorem snd_val {fz : Bool} {tg : Expr} (h : PE X x (tM P X.K fz a)) : PI X tg x (tI P X.K fz (.val a)) :=
  pi_imp (pi_seq h) fun σ H R q => by
    obtain ⟨O0, H0, O, ρ, S', S, es, ev, q⟩ := q
    have ev : P.ev a ρ fun x => wM.lift (items x) S' := by unfold Pm.evS PV.evS at ev; exact ev
    rw [escW_val] at es
    refine ⟨O0, H0, O, ρ, _, S, es, ev, fun d v H1 hd e1 ba lo rp => ?_⟩
    obtain ⟨ds, hds, hS⟩ := wlift hd
    obtain ⟨p, vs, rfl, r, h⟩ := srcv ba lo rp hds
    have hl := r.length
    refine ⟨p, vs, rfl, ?_⟩
    rcases h with ⟨_, h1, h2⟩ | ⟨_, h1, h2⟩
    · exact .inl ⟨h1, fun hz => q ds _ H1 hS (by rw [← hl, line_eq]; exact hz) e1 (wk_list r h2)⟩
    · exact .inr ⟨h1, fun hz => q ds _ H1 hS (by rw [← hl, line_eq]; exact hz) e1 (wk_tup r h2)⟩
/-- with the bound of a line -/
theorem pe_bnd {e : Expr} {t : TE} (h : PE X e t) : PE X e (fun σ H Q => t σ H fun v H' => (∀ p xs, v = .ref p → SqL X.K H' p xs ∨ SqT X.K H' p xs → xs.length ≤ sizeLine) → Q v H') :=
  ⟨fun pins s σ H Q I q => thn (h.run pins s σ H _ I q) fun w s1 ⟨v, H1, I1, rv, q1⟩ => ⟨v, H1, I1, rv, q1 fun p xs _ hs => by
    rcases hs with hs | hs
    · exact (I1.list hs).elim fun _ z => z.2.2
    · exact (I1.tuple hs).elim fun _ z => z.2.2⟩⟩
theorem wk_zip {K : PySem.W.Frag} {p1 p2 : Addr} {vs ws : List V} {ds es : List D} {O : List Addr} {H1 : Hp} {G : List Addr → Hp → Prop} (hG : ∀ O' H', G O' H' → Dm O' H') (r : Rps K (hid O H1) vs ds) (r2 : Rps K (hid O H1) ws es)
    (hs : ∀ O' H', G O' H' → SqL K H' p1 vs ∧ Le (hid O H1) (hid O' H')) (hs2 : ∀ O' H', G O' H' → SqL K H' p2 ws ∧ Le (hid O H1) (hid O' H')) : Wk K (Itz K p1 p2) (zip2 ds es) G := fun O' H' g n => by
  obtain ⟨h1, l1⟩ := hs O' H' g
  obtain ⟨h2, l2⟩ := hs2 O' H' g
  refine ⟨fun d hd => ?_, fun h => ⟨vs, ws, h1, h2, ?_⟩⟩
  · obtain ⟨x, y, hx, hy, rfl⟩ := zip_get hd
    obtain ⟨v, hv, rv⟩ := r.getD hx
    obtain ⟨v2, hv2, rv2⟩ := r2.getD hy
    refine ⟨⟨vs, ws, v, v2, h1, h2, hv, hv2⟩, fun x H'' hy => ?_⟩
    obtain ⟨T, a, b, rfl, hT, rfl, k1, k2⟩ := hy
    have e1 := k1 vs h1
    have e2 := k2 ws h2
    rw [hv] at e1
    rw [hv2] at e2
    cases e1
    cases e2
    have l3 : Le (hid O' H') (hid O' (upd H' T (.tup [v, v2]))) := hid_le_mono (Le.new hT)
    exact ⟨Le.new hT, .tup (.inl (.inl (hid_in (fun hm => hG O' H' g T hm hT) (by simp [upd])))) (.cons (rv.mono (l1.trans l3)) (.cons (rv2.mono (l2.trans l3)) .nil))⟩
  · rw [zip_len, ← r.length, ← r2.length] at h
    omega
theorem wk_zipT {K : PySem.W.Frag} {p1 p2 : Addr} {vs ws : List V} {ds es : List D} {O : List Addr} {H1 : Hp} {G : List Addr → Hp → Prop} (hG : ∀ O' H', G O' H' → Dm O' H') (r : Rps K (hid O H1) vs ds) (r2 : Rps K (hid O H1) ws es)
    (hs : ∀ O' H', G O' H' → SqT K H' p1 vs ∧ Le (hid O H1) (hid O' H')) (hs2 : ∀ O' H', G O' H' → SqT K H' p2 ws ∧ Le (hid O H1) (hid O' H')) : Wk K (ItzT K p1 p2) (zip2 ds es) G := fun O' H' g n => by
  obtain ⟨h1, l1⟩ := hs O' H' g
  obtain ⟨h2, l2⟩ := hs2 O' H' g
  refine ⟨fun d hd => ?_, fun h => ⟨vs, ws, h1, h2, ?_⟩⟩
  · obtain ⟨x, y, hx, hy, rfl⟩ := zip_get hd
    obtain ⟨v, hv, rv⟩ := r.getD hx
    obtain ⟨v2, hv2, rv2⟩ := r2.getD hy
    refine ⟨⟨vs, ws, v, v2, h1, h2, hv, hv2⟩, fun x H'' hy => ?_⟩
    obtain ⟨T, a, b, rfl, hT, rfl, k1, k2⟩ := hy
    have e1 := k1 vs h1
    have e2 := k2 ws h2
    rw [hv] at e1
    rw [hv2] at e2
    cases e1
    cases e2
    have l3 : Le (hid O' H') (hid O' (upd H' T (.tup [v, v2]))) := hid_le_mono (Le.new hT)
    exact ⟨Le.new hT, .tup (.inl (.inl (hid_in (fun hm => hG O' H' g T hm hT) (by simp [upd])))) (.cons (rv.mono (l1.trans l3)) (.cons (rv2.mono (l2.trans l3)) .nil))⟩
  · rw [zip_len, ← r.length, ← r2.length] at h
    omega
theorem wk_zipM {K : PySem.W.Frag} {p1 p2 : Addr} {vs ws : List V} {ds es : List D} {O : List Addr} {H1 : Hp} {G : List Addr → Hp → Prop} (hG : ∀ O' H', G O' H' → Dm O' H') (r : Rps K (hid O H1) vs ds) (r2 : Rps K (hid O H1) ws es)
    (hs : ∀ O' H', G O' H' → SqL K H' p1 vs ∧ Le (hid O H1) (hid O' H')) (hs2 : ∀ O' H', G O' H' → SqT K H' p2 ws ∧ Le (hid O H1) (hid O' H')) : Wk K (ItzM K p1 p2) (zip2 ds es) G := fun O' H' g n => by
  obtain ⟨h1, l1⟩ := hs O' H' g
  obtain ⟨h2, l2⟩ := hs2 O' H' g
  refine ⟨fun d hd => ?_, fun h => ⟨vs, ws, h1, h2, ?_⟩⟩
  · obtain ⟨x, y, hx, hy, rfl⟩ := zip_get hd
    obtain ⟨v, hv, rv⟩ := r.getD hx
    obtain ⟨v2, hv2, rv2⟩ := r2.getD hy
    refine ⟨⟨vs, ws, v, v2, h1, h2, hv, hv2⟩, fun x H'' hy => ?_⟩
    obtain ⟨T, a, b, rfl, hT, rfl, k1, k2⟩ := hy
    have e1 := k1 vs h1
    have e2 := k2 ws h2
    rw [hv] at e1
    rw [hv2] at e2
    cases e1
    cases e2
    have l3 : Le (hid O' H') (hid O' (upd H' T (.tup [v, v2]))) := hid_le_mono (Le.new hT)
    exact ⟨Le.new hT, .tup (.inl (.inl (hid_in (fun hm => hG O' H' g T hm hT) (by simp [upd])))) (.cons (rv.mono (l1.trans l3)) (.cons (rv2.mono (l2.trans l3)) .nil))⟩
  · rw [zip_len, ← r.length, ← r2.length] at h
    omega
theorem zipD_some {d1 d2 : D} {ds : List D} (h : zipD d1 d2 = some ds) : ∃ xs ys, ds = zip2 xs ys ∧ ((d1 = .list xs ∧ d2 = .list ys) ∨ (d1 = .tuple xs ∧ d2 = .tuple ys) ∨ (d1 = .list xs ∧ d2 = .tuple ys)) := by
  cases d1 <;> cases d2 <;> simp [zipD] at h
  · exact ⟨_, _, h.symm, .inl ⟨rfl, rfl⟩⟩
  · exact ⟨_, _, h.symm, .inr (.inr ⟨rfl, rfl⟩)⟩
  · exact ⟨_, _, h.symm, .inr (.inl ⟨rfl, rfl⟩)⟩
theorem snd_zip (g : Gd P ct X k) {fz : Bool} {es : List Expr} {kk : Nat} {p tp : Pos} (hg : isGl ct "zip" = true) (hs : notStar x = true) (hs2 : notStar y = true) (ha : PE X x (tM P X.K fz a)) (hb : PE X y (tM P X.K fz b)) :
    PI X (.Tuple es kk tp) (.Call (.Name "zip" p) [x, y] [] pos) (tI P X.K fz (.zip a b)) :=
  pi_imp (pi_zipM (g.gl hg) (g.blt _ (by decide)) (pa_cons ha (pa_cons (pe_bnd hb) pa_nil (star_cons hs2)) (star_cons hs)) (star_cons hs) (plain1 hs2)) fun σ H R q => by
    obtain ⟨O0, H0, O, ρ, S', S, es, ev, q⟩ := q
    have ev : P.ev a ρ fun x => P.ev b ρ fun y => wM.lift (zipD x y) S' := by unfold Pm.evS PV.evS at ev; exact ev
    rw [escW_zip] at es
    refine ⟨O0, H0, O, ρ, _, S, noOw_l es, ev, fun d v H1 hd e1 ba lo rp => ⟨O0, H0, O, ρ, _, S.ext e1, noOw_r es, hd, fun d2 v2 H2 hd e2 ba2 lo2 rp2 bnd => ?_⟩⟩
    obtain ⟨ds, hds, hS⟩ := wlift hd
    have ba1 := ba.ext e2 S.wo e1.2
    obtain ⟨xs, ys, rfl, h⟩ := zipD_some hds
    rcases h with ⟨rfl, rfl⟩ | ⟨rfl, rfl⟩ | ⟨rfl, rfl⟩
    · obtain ⟨p1, vs, rfl, r1, h1⟩ := srcv (fz := fz) (ds := xs) ba1 lo (fun z => (rp z).mono (e2.hid S.wo)) rfl
      obtain ⟨p2, ws, rfl, r2, h2⟩ := srcv (fz := fz) (ds := ys) ba2 lo2 rp2 rfl
      rcases h1 with ⟨_, h1, g1⟩ | ⟨z, _⟩
      · rcases h2 with ⟨_, h2, g2⟩ | ⟨z, _⟩
        · have hz := bnd p2 ws rfl (.inl h2)
          refine ⟨p1, p2, vs, ws, rfl, .inl ⟨h1, h2, q _ _ H2 hS ?_ (e1.trans e2) (wk_zip (fun _ _ z => z.1) r1 r2 g1 g2)⟩⟩
          rw [zip_len, ← r2.length, line_eq]
          omega
        · cases z
      · cases z
    · obtain ⟨p1, vs, rfl, r1, h1⟩ := srcv (fz := fz) (ds := xs) ba1 lo (fun z => (rp z).mono (e2.hid S.wo)) rfl
      obtain ⟨p2, ws, rfl, r2, h2⟩ := srcv (fz := fz) (ds := ys) ba2 lo2 rp2 rfl
      rcases h1 with ⟨z, _⟩ | ⟨_, h1, g1⟩
      · cases z
      · rcases h2 with ⟨z, _⟩ | ⟨_, h2, g2⟩
        · cases z
        · have hz := bnd p2 ws rfl (.inr h2)
          refine ⟨p1, p2, vs, ws, rfl, .inr (.inl ⟨h1, h2, q _ _ H2 hS ?_ (e1.trans e2) (wk_zipT (fun _ _ z => z.1) r1 r2 g1 g2)⟩)⟩
          rw [zip_len, ← r2.length, line_eq]
          omega
    · obtain ⟨p1, vs, rfl, r1, h1⟩ := srcv (fz := fz) (ds := xs) ba1 lo (fun z => (rp z).mono (e2.hid S.wo)) rfl
      obtain ⟨p2, ws, rfl, r2, h2⟩ := srcv (fz := fz) (ds := ys) ba2 lo2 rp2 rfl
      rcases h1 with ⟨_, h1, g1⟩ | ⟨z, _⟩
      · rcases h2 with ⟨z, _⟩ | ⟨_, h2, g2⟩
        · cases z
        · have hz := bnd p2 ws rfl (.inr h2)
          refine ⟨p1, p2, vs, ws, rfl, .inr (.inr ⟨h1, h2, q _ _ H2 hS ?_ (e1.trans e2) (wk_zipM (fun _ _ z => z.1) r1 r2 g1 g2)⟩)⟩
          rw [zip_len, ← r2.length, line_eq]
          omega
      · cases z
end

/-! ### slots -/
section
variable {K : PySem.W.Frag} {w : Wp} {iw : Nat} {O0 O : List Addr} {H0 H : Hp} {σ : L2.St} {ρ : Env}
/-- a slot is set to a value that others may hold -/
theorem Sim.setSh (S : Sim K w iw O0 H0 O H σ ρ) {i : Nat} {v : V} {d : D} (r : Rp K (hid O H) v d) (hi : i ≠ iw) : Sim K w iw O0 H0 O H (σ.set i (some v)) (ρ.set i (.sh d)) where
  len := by simp [S.len]
  slot := fun j s h => by
    by_cases e : i = j
    · subst e
      by_cases hl : i < ρ.length
      · rw [List.getElem?_set_self hl] at h
        cases h
        refine ⟨v, ?_, r⟩
        rw [List.getElem?_set_self (by rw [S.len]; exact hl)]
        rfl
      · rw [List.getElem?_eq_none (by simpa using hl)] at h
        cases h
    · rw [List.getElem?_set_ne e] at h ⊢
      exact S.slot j s h
  inj := fun j l d1 d2 p h1 h2 h3 h4 => by
    by_cases e : i = j
    · subst e
      by_cases hl : i < ρ.length
      · rw [List.getElem?_set_self hl] at h1
        cases h1
      · rw [List.getElem?_eq_none (by simpa using hl)] at h1
        cases h1
    · by_cases e2 : i = l
      · subst e2
        by_cases hl : i < ρ.length
        · rw [List.getElem?_set_self hl] at h2
          cases h2
        · rw [List.getElem?_eq_none (by simpa using hl)] at h2
          cases h2
      · rw [List.getElem?_set_ne e] at h1 h3
        rw [List.getElem?_set_ne e2] at h2 h4
        exact S.inj j l d1 d2 p h1 h2 h3 h4
  dom := S.dom
  dom0 := S.dom0
  sub := S.sub
  fresh := S.fresh
  ent := S.ent
  w0 := S.w0
  wO := S.wO
  wS := fun t ht => by
    rw [List.getElem?_set_ne hi, List.getElem?_set_ne hi]
    exact S.wS t ht
  own := fun j d p h1 h2 => by
    by_cases e : i = j
    · subst e
      by_cases hl : i < ρ.length
      · rw [List.getElem?_set_self hl] at h1
        cases h1
      · rw [List.getElem?_eq_none (by simpa using hl)] at h1
        cases h1
    · rw [List.getElem?_set_ne e] at h1 h2
      exact S.own j d p h1 h2
theorem wip_get {vs : List Nat} {ρ : Env} {j : Nat} : (wip vs ρ)[j]? = (ρ[j]?).map fun s => if vs.contains j then Slot.no else s := by
  unfold wip
  rw [List.getElem?_mapIdx]
theorem wipe_get {σ : L2.St} {j : Nat} : ∀ {vs : List Nat}, (wipe σ vs)[j]? = if j ∈ vs then (σ[j]?).map fun _ => none else σ[j]?
  | [] => by simp [wipe]
  | v :: vs => by
    unfold wipe
    by_cases e : v = j
    · subst e
      rw [if_pos (by simp)]
      by_cases hl : v < σ.length
      · rw [List.getElem?_set_self (by rw [wipe_length]; exact hl), List.getElem?_eq_getElem hl]
        rfl
      · rw [List.getElem?_eq_none (by rw [List.length_set, wipe_length]; omega), List.getElem?_eq_none (by omega)]
        rfl
    · rw [List.getElem?_set_ne e, wipe_get]
      have e' : ¬ j = v := fun z => e z.symm
      simp [e']
theorem wipe_idem {σ : L2.St} {vs : List Nat} : wipe (wipe σ vs) vs = wipe σ vs := by
  refine List.ext_getElem? fun j => ?_
  rw [wipe_get, wipe_get]
  by_cases h : j ∈ vs
  · rw [if_pos h, if_pos h]
    cases σ[j]? <;> rfl
  · rw [if_neg h, if_neg h]
theorem wipe_set {σ : L2.St} {vs : List Nat} {i : Nat} {x : Option V} (h : i ∈ vs) : wipe (σ.set i x) vs = wipe σ vs := by
  refine List.ext_getElem? fun j => ?_
  rw [wipe_get, wipe_get]
  by_cases hj : j ∈ vs
  · rw [if_pos hj, if_pos hj]
    by_cases e : i = j
    · subst e
      by_cases hl : i < σ.length
      · rw [List.getElem?_set_self hl, List.getElem?_eq_getElem hl]
        rfl
      · rw [List.getElem?_eq_none (by simpa using hl), List.getElem?_eq_none (by simpa using hl)]
    · rw [List.getElem?_set_ne e]
  · rw [if_neg hj, if_neg hj, List.getElem?_set_ne]
    intro e
    exact hj (by rw [← e]; exact h)
/-- names of a block forgotten -/
theorem Sim.wip (S : Sim K w iw O0 H0 O H σ ρ) {vs : List Nat} (hw : iw ∉ vs) : Sim K w iw O0 H0 O H (wipe σ vs) (PV.wip vs ρ) where
  len := by rw [wipe_length, S.len]; simp [PV.wip]
  slot := fun j s h => by
    rw [wip_get] at h
    rw [wipe_get]
    cases e : ρ[j]? with
    | none => rw [e] at h; cases h
    | some t =>
      rw [e] at h
      by_cases hj : j ∈ vs
      · have : Slot.no = s := by simpa [hj] using h
        subst this
        trivial
      · have : t = s := by simpa [hj] using h
        subst this
        rw [if_neg hj]
        exact S.slot j t e
  inj := fun j l d1 d2 p h1 h2 h3 h4 => by
    obtain ⟨q1, _⟩ := wipe_some h3
    obtain ⟨q2, _⟩ := wipe_some h4
    have k1 : ρ[j]? = some (.ow d1) := by
      rw [wip_get] at h1
      cases e : ρ[j]? with
      | none => rw [e] at h1; cases h1
      | some t =>
        rw [e] at h1
        by_cases hj : j ∈ vs
        · simp [hj] at h1
        · simpa [hj] using h1
    have k2 : ρ[l]? = some (.ow d2) := by
      rw [wip_get] at h2
      cases e : ρ[l]? with
      | none => rw [e] at h2; cases h2
      | some t =>
        rw [e] at h2
        by_cases hj : l ∈ vs
        · simp [hj] at h2
        · simpa [hj] using h2
    exact S.inj j l d1 d2 p k1 k2 q1 q2
  dom := S.dom
  dom0 := S.dom0
  sub := S.sub
  fresh := S.fresh
  ent := S.ent
  w0 := S.w0
  wO := S.wO
  wS := fun t ht => by
    obtain ⟨h1, h2⟩ := S.wS t ht
    rw [wipe_get, if_neg hw, wip_get, h2]
    exact ⟨h1, by simp⟩
  own := fun j d p h1 h2 => by
    obtain ⟨q1, _⟩ := wipe_some h2
    have k1 : ρ[j]? = some (.ow d) := by
      rw [wip_get] at h1
      cases e : ρ[j]? with
      | none => rw [e] at h1; cases h1
      | some t =>
        rw [e] at h1
        by_cases hj : j ∈ vs
        · simp [hj] at h1
        · simpa [hj] using h1
    exact S.own j d p k1 q1
theorem noOw_wip {vs us : List Nat} (h : NoOw us ρ) : NoOw us (wip vs ρ) := fun i hi => by
  have q := h i hi
  unfold getO at q ⊢
  rw [wip_get]
  cases e : ρ[i]? with
  | none => rfl
  | some t =>
    rw [e] at q
    by_cases hj : i ∈ vs
    · simp [hj, Slot.own?]
    · simpa [hj] using q
theorem noOw_set {us : List Nat} {i : Nat} {d : D} (h : NoOw us ρ) : NoOw us (ρ.set i (.sh d)) := fun j hj => by
  have q := h j hj
  unfold getO at q ⊢
  by_cases e : i = j
  · subst e
    by_cases hl : i < ρ.length
    · rw [List.getElem?_set_self hl]
      rfl
    · rw [List.getElem?_eq_none (by simpa using hl)]
      rfl
  · rw [List.getElem?_set_ne e]
    exact q
mutual
theorem noOw_bind {us : List Nat} : ∀ {p : Pat} {d : D} {ρ ρ' : Env}, bindP p d ρ = some ρ' → NoOw us ρ → NoOw us ρ'
  | .nm i, d, ρ, ρ', e, h => by
    unfold bindP at e
    cases e
    exact noOw_set h
  | .tp ps, d, ρ, ρ', e, h => by
    cases d <;> unfold bindP at e <;> first | cases e | exact noOw_binds e h
theorem noOw_binds {us : List Nat} : ∀ {ps : Pats} {ds : List D} {ρ ρ' : Env}, bindPs ps ds ρ = some ρ' → NoOw us ρ → NoOw us ρ'
  | .nil, ds, ρ, ρ', e, h => by
    cases ds <;> unfold bindPs at e <;> cases e
    exact h
  | .cons p ps, ds, ρ, ρ', e, h => by
    cases ds with
    | nil => unfold bindPs at e; cases e
    | cons d ds =>
      unfold bindPs at e
      cases q : bindP p d ρ with
      | none => rw [q] at e; cases e
      | some ρ1 => rw [q] at e; exact noOw_binds e (noOw_bind q h)
end
end

/-! ### targets -/
section
variable {P : Pm} {ct : Ct} {X : Cx} {k : Nat} {pos : Pos}
def tG (P : Pm) (K : PySem.W.Frag) (p : Pat) : TG := fun v σ H Q => ∃ O0 H0 O ρ d ρ', Sim K P.w P.iw O0 H0 O H σ ρ ∧ Rp K (hid O H) v d ∧ bindP p d ρ = some ρ' ∧ ∀ σ', Sim K P.w P.iw O0 H0 O H σ' ρ' → (∀ vs, (∀ i ∈ p.ns, i ∈ vs) → wipe σ' vs = wipe σ vs) → Q σ' H
def tGs (P : Pm) (K : PySem.W.Frag) (ps : Pats) : TGs := fun us σ H Q => ∃ O0 H0 O ρ ds ρ', Sim K P.w P.iw O0 H0 O H σ ρ ∧ Rps K (hid O H) us ds ∧ bindPs ps ds ρ = some ρ' ∧ ∀ σ', Sim K P.w P.iw O0 H0 O H σ' ρ' → (∀ vs, (∀ i ∈ ps.ns, i ∈ vs) → wipe σ' vs = wipe σ vs) → Q σ' H
theorem pg_imp {e : Expr} {t t' : TG} (h : PG X e t') (k : ∀ v σ H Q, t v σ H Q → t' v σ H Q) : PG X e t := ⟨fun pins s σ H v u Q I r q => h.run pins s σ H v u Q I r (k v σ H Q q)⟩
theorem pgs_imp {es : List Expr} {t t' : TGs} (h : PGs X es t') (k : ∀ v σ H Q, t v σ H Q → t' v σ H Q) : PGs X es t := ⟨fun pins s σ H v u Q I r q => h.run pins s σ H v u Q I r (k v σ H Q q)⟩
theorem as_cons {e : Expr} {es : List Expr} {env : PySem.Env} (h : notStar e = true) : assignEach (e :: es) env = (false, assign e env) :: assignEach es env := by
  cases e <;> first | rfl | (simp [notStar] at h)
theorem as_len {ct : Ct} {env : PySem.Env} : ∀ {ps : Pats} {es : List Expr}, chkPs ct ps es = true → (assignEach es env).findIdx? (·.1) = none ∧ ∀ ds ρ ρ', bindPs ps ds ρ = some ρ' → ds.length = (assignEach es env).length
  | .nil, [], _ => ⟨rfl, fun ds ρ ρ' h => by cases ds <;> unfold bindPs at h <;> first | rfl | cases h⟩
  | .nil, _ :: _, h => by unfold chkPs at h; cases h
  | .cons p ps, [], h => by unfold chkPs at h; cases h
  | .cons p ps, e :: es, h => by
    unfold chkPs at h
    rw [Bool.and_eq_true, Bool.and_eq_true] at h
    obtain ⟨h1, h2, h3⟩ := h
    obtain ⟨k1, k2⟩ := as_len (env := env) h3
    rw [as_cons h1]
    refine ⟨by rw [List.findIdx?_cons, k1]; rfl, fun ds ρ ρ' hb => ?_⟩
    cases ds with
    | nil => unfold bindPs at hb; cases hb
    | cons d ds =>
      unfold bindPs at hb
      cases q : bindP p d ρ with
      | none => rw [q] at hb; cases hb
      | some ρ1 =>
        rw [q] at hb
        simp [k2 ds ρ1 ρ' hb]
mutual
theorem snd_pat (g : Gd P ct X k) : ∀ {p : Pat} {e : Expr}, chkP ct p e = true → PG X e (tG P X.K p)
  | .nm i, e, h => by
    unfold chkP at h
    cases hv : vName e with
    | none => rw [hv] at h; cases h
    | some x =>
      rw [hv] at h
      obtain ⟨p, rfl⟩ := vName_eq hv
      simp only [Bool.and_eq_true, beq_iff_eq, Bool.not_eq_true', beq_eq_false_iff_ne] at h
      obtain ⟨⟨h1, h2⟩, h3⟩ := h
      obtain ⟨l, hf⟩ := g.sto x h2
      refine pg_imp (pg_name (by rw [g.hN]; exact g.nd) (by rw [g.hN]; exact h1) l hf) fun v σ H Q q => ?_
      obtain ⟨O0, H0, O, ρ, d, ρ', S, r, hb, q⟩ := q
      unfold bindP at hb
      cases hb
      exact q _ (S.setSh r (by rw [← g.hiw]; exact h3)) fun vs hvs => wipe_set (hvs i (by simp [Pat.ns]))
  | .tp ps, e, h => by
    unfold chkP at h
    cases hv : vTup e with
    | none => rw [hv] at h; cases h
    | some es =>
      rw [hv] at h
      obtain ⟨j, p, rfl⟩ := vTup_eq hv
      obtain ⟨k1, k2⟩ := as_len (env := X.env) h
      refine pg_imp (pg_tup g.calm (snd_pats g h) rfl k1) fun v σ H Q q => ?_
      obtain ⟨O0, H0, O, ρ, d, ρ', S, r, hb, q⟩ := q
      cases r with
      | @tup a xs ds hs rs =>
        have hb : bindPs ps ds ρ = some ρ' := by unfold bindP at hb; exact hb
        exact ⟨a, xs, rfl, (hid_le O H).st hs, by rw [rs.length]; exact k2 ds ρ ρ' hb, O0, H0, O, ρ, ds, ρ', S, rs, hb, fun σ' S' hw => q σ' S' fun vs hvs => hw vs (by simpa [Pat.ns] using hvs)⟩
      | _ => unfold bindP at hb; cases hb
theorem snd_pats (g : Gd P ct X k) : ∀ {ps : Pats} {es : List Expr}, chkPs ct ps es = true → PGs X es (tGs P X.K ps)
  | .nil, [], _ => pgs_imp pgs_nil fun v σ H Q q => by
    obtain ⟨O0, H0, O, ρ, d, ρ', S, r, hb, q⟩ := q
    cases r with
    | nil =>
      unfold bindPs at hb
      cases hb
      exact ⟨rfl, q σ S fun _ _ => rfl⟩
    | cons _ _ => unfold bindPs at hb; cases hb
  | .nil, _ :: _, h => by unfold chkPs at h; cases h
  | .cons p ps, [], h => by unfold chkPs at h; cases h
  | .cons p ps, e :: es, h => by
    unfold chkPs at h
    rw [Bool.and_eq_true, Bool.and_eq_true] at h
    obtain ⟨h1, h2, h3⟩ := h
    refine pgs_imp (pgs_cons (snd_pat g h2) (snd_pats g h3) (by rw [as_cons h1]; rfl)) fun v σ H Q q => ?_
    obtain ⟨O0, H0, O, ρ, d, ρ', S, r, hb, q⟩ := q
    cases r with
    | nil => unfold bindPs at hb; cases hb
    | cons r rs =>
      unfold bindPs at hb
      rename_i dd ds
      cases hq : bindP p dd ρ with
      | none => rw [hq] at hb; cases hb
      | some ρ1 =>
        rw [hq] at hb
        refine ⟨_, _, rfl, O0, H0, O, ρ, _, ρ1, S, r, hq, fun σ1 S1 hw1 => ⟨O0, H0, O, ρ1, _, ρ', S1, rs, hb, fun σ2 S2 hw2 => q σ2 S2 fun vs hvs => ?_⟩⟩
        rw [hw2 vs fun i hi => hvs i (by simp [Pats.ns, hi]), hw1 vs fun i hi => hvs i (by simp [Pats.ns, hi])]
end
end
end PV

set_option maxHeartbeats 4000000
/-! PV: comprehensions. -/
namespace PV
open PySem L2 RZ

theorem lookup_rel {k : NameKind} {sc : Scope} {x : Str} (hk : k ≠ .free) : ∀ {l : List (Str × NameKind)}, l.lookup x = some k → (l.map fun (n, k) => if (k == .free && sc.kind == .function && sc.names.lookup n == some .cell) then (n, NameKind.cell) else (n, k)).lookup x = some k
  | [], h => by cases h
  | (n, j) :: r, h => by
    rw [List.lookup_cons] at h
    rw [List.map_cons]
    cases hb : x == n with
    | true =>
      rw [hb] at h
      cases h
      have e : (k == NameKind.free) = false := by cases k <;> first | rfl | exact absurd rfl hk
      simp only [e, Bool.false_and, Bool.false_eq_true, if_false]
      rw [List.lookup_cons, hb]
    | false =>
      rw [hb] at h
      have ih := lookup_rel (sc := sc) hk (l := r) h
      by_cases hc : (j == NameKind.free && sc.kind == .function && sc.names.lookup n == some .cell) = true
      · simp only [hc, if_true]
        rw [List.lookup_cons, hb]
        exact ih
      · simp only [Bool.not_eq_true] at hc
        simp only [hc, Bool.false_eq_true, if_false]
        rw [List.lookup_cons, hb]
        exact ih
section
variable {P : Pm} {ct : Ct} {X : Cx} {k : Nat}
theorem Gd.blk (g : Gd P ct X k) (scope : Scope) (s : Shared) (H : Hp) (C : Addr) (cl : List (Str × Addr)) (fp : List Addr) : Gd P (ct.blk scope) (X.blk s H scope (compEnvC scope cl C X.env) fp) k where
  hN := g.hN
  nd := g.nd
  hsc := by
    show relS scope X.env.scope = relS scope ct.sc
    rw [g.hsc]
  hiw := g.hiw
  calm := g.calm
  room := g.room
  blt := g.blt
  sto := fun x hx => by
    have hx : isLoc scope x = true := hx
    unfold isLoc at hx
    rw [Bool.or_eq_true, beq_iff_eq, beq_iff_eq] at hx
    rcases hx with h | h
    · exact ⟨.inl (lookup_rel (by decide) h), .inr (lookup_rel (by decide) h)⟩
    · refine ⟨.inr (lookup_rel (by decide) h), .inl ?_⟩
      show (scope.names.lookup x == some .cell) = true
      rw [h]
      rfl
  fns := g.fns
  hws := g.hws
  gls := g.gls
theorem ownP_ix {own : List Nat} {p : Str × Nat} (h : p ∈ ownP ct own) : ct.N[p.2]? = some p.1 := by
  unfold ownP at h
  obtain ⟨i, _, h⟩ := List.mem_filterMap.mp h
  cases e : ct.N[i]? with
  | none => rw [e] at h; cases h
  | some x =>
    rw [e] at h
    cases h
    exact e
theorem blk_ok (g : Gd P ct X k) {scope : Scope} {own : List Nat} (h : blkB ct scope own = true) : BlkOk X.N X.env.scope scope (ownP ct own) ∧ (ownP ct own).map (·.2) = own ∧ P.iw ∉ own := by
  unfold blkB at h
  simp only [Bool.and_eq_true] at h
  obtain ⟨⟨⟨⟨⟨h1, h2⟩, h3⟩, h4⟩, h5⟩, h6⟩ := h
  refine ⟨⟨by simpa using h1, fun y hy => ?_, fun p hp => by rw [g.hN]; exact ownP_ix hp, fun y hy e => ?_, fun y hy e => ?_⟩, by simpa using h3, ?_⟩
  · exact beq_iff_eq.mp (List.all_eq_true.mp h2 y hy)
  · have q := List.all_eq_true.mp h4 y hy
    rw [e] at q
    rw [g.hsc]
    simpa using q
  · have q := List.all_eq_true.mp h5 y hy
    rw [g.hN]
    have e2 : (y.2 == NameKind.local || y.2 == NameKind.cell) = true := by rcases e with e | e <;> rw [e] <;> rfl
    rw [e2] at q
    have q : ((ownP ct own).any (fun p => p.1 == y.1) || !ct.N.contains y.1) = true := by simpa using q
    rw [Bool.or_eq_true] at q
    rcases q with q | q
    · obtain ⟨p, hp, e3⟩ := List.any_eq_true.mp q
      exact .inl (List.mem_map.mpr ⟨p, hp, beq_iff_eq.mp e3⟩)
    · exact .inr (by simpa using q)
  · rw [← g.hiw]
    simpa using h6
end

/-! ### a loop that fills the list at D -/
def XD (w : Wp) (D : Addr) (Hs H' : Hp) : Prop := (∀ a o, ¬ w.is a → a ≠ D → Hs a = some o → H' a = some o) ∧ WOk w H'
theorem XD.ext {w : Wp} {D : Addr} {Hs H H' : Hp} (x : XD w D Hs H) (e : Ext w H H') : XD w D Hs H' := ⟨fun a o h1 h2 h3 => e.1 a o h1 (x.1 a o h1 h2 h3), e.2⟩
theorem is_dK {w : Wp} {H : Hp} {a : Addr} (wk : WOk w H) (h : w.is a) : ∃ kvs, H a = some (.dK kvs) := by
  obtain ⟨t, ht, rfl⟩ := h
  rw [ht] at wk
  obtain ⟨j, _, h1, _⟩ := wk
  exact ⟨_, h1⟩
theorem XD.upd {w : Wp} {D : Addr} {Hs H : Hp} {o : HO} (x : XD w D Hs H) (hD : ∀ t, w = some t → D ≠ t.1 ∧ D ≠ t.2.1) : XD w D Hs (upd H D o) := by
  refine ⟨fun a u h1 h2 h3 => ?_, ?_⟩
  · rw [upd_ne h2]
    exact x.1 a u h1 h2 h3
  · have wk := x.2
    cases w with
    | none => trivial
    | some t =>
      obtain ⟨pw, pd, ns⟩ := t
      obtain ⟨k1, k2⟩ := hD _ rfl
      obtain ⟨j, h0, h1, h2⟩ := wk
      exact ⟨j, h0, by rw [upd_ne (fun z => k1 z.symm)]; exact h1, by rw [upd_ne (fun z => k2 z.symm)]; exact h2⟩
theorem lc_loop {K : PySem.W.Frag} {w : Wp} {O : List Addr} {J : It} {ds : List D} {G : List Addr → Hp → Prop} {Hs : Hp} {D : Addr} (F : List PV.D → List PV.D → Prop) (Fin : Hp → Prop) (B : V → Hp → (Hp → Prop) → Prop)
    (wk : Wk K J ds G) (hG : ∀ H', XD w D Hs H' → Dm O H' → G O H') (dm : Dm O Hs) (wok : WOk w Hs) {acc0 : List V} {as0 : List PV.D} (h0 : Hs D = some (.lst acc0)) (r0 : Rps K (hid O Hs) acc0 as0) (f0 : F ds as0)
    (fin : ∀ H' acc as, XD w D Hs H' → Dm O H' → H' D = some (.lst acc) → Rps K (hid O H') acc as → F [] as → Fin H')
    (body : ∀ d rest H' acc as x, XD w D Hs H' → Dm O H' → H' D = some (.lst acc) → Rps K (hid O H') acc as → Rp K (hid O H') x d → F (d :: rest) as → ∀ Nx : Hp → Prop, (∀ H'' acc' as', XD w D Hs H'' → H'' D = some (.lst acc') → Rps K (hid O H'') acc' as' → F rest as' → Nx H'') → B x H' Nx) :
    ∃ W : Nat → Nat → Hp → Prop, (∃ m, W 0 m Hs) ∧ ∀ i m H, W i m H → (J.stop i H ∧ Fin H) ∨ (J.go i H ∧ ∃ Nx : Hp → Prop, (∀ H', Nx H' → ∃ m', m' < m ∧ W (i + 1) m' H') ∧ ∀ x H', J.yld i H x H' → B x H' Nx) := by
  have dmX : ∀ {H' : Hp} {acc : List V}, XD w D Hs H' → H' D = some (.lst acc) → Dm O H' := fun {H' acc} x hd p hp hn => by
    by_cases e : p = D
    · subst e
      rw [hd] at hn
      cases hn
    · by_cases hw : w.is p
      · obtain ⟨kvs, z⟩ := is_dK x.2 hw
        rw [z] at hn
        cases hn
      · cases q : Hs p with
        | none => exact dm p hp q
        | some o => rw [x.1 p o hw e q] at hn; cases hn
  refine ⟨fun i m H' => i + m = ds.length ∧ ∃ acc as, XD w D Hs H' ∧ H' D = some (.lst acc) ∧ Rps K (hid O H') acc as ∧ F (ds.drop i) as, ⟨ds.length, by omega, acc0, as0, ⟨fun _ _ _ _ q => q, wok⟩, h0, r0, f0⟩, fun i m H' h => ?_⟩
  obtain ⟨hm, acc, as, x, hd, r, f⟩ := h
  have dm' := dmX x hd
  obtain ⟨wk1, wk2⟩ := wk O H' (hG H' x dm') i
  by_cases hi : i < ds.length
  · have hget : ds[i]? = some ds[i] := List.getElem?_eq_getElem hi
    obtain ⟨go, yl⟩ := wk1 _ hget
    refine .inr ⟨go, fun H'' => ∃ acc as, XD w D Hs H'' ∧ H'' D = some (.lst acc) ∧ Rps K (hid O H'') acc as ∧ F (ds.drop (i + 1)) as, fun H'' h => ⟨m - 1, by omega, by omega, h⟩, fun v H'' hy => ?_⟩
    obtain ⟨le, rp⟩ := yl v H'' hy
    have x2 : XD w D Hs H'' := x.ext (Ext.of_le x.2 le)
    rw [List.drop_eq_getElem_cons hi] at f
    exact body _ _ H'' acc as v x2 (dmX x2 (le _ _ hd)) (le _ _ hd) (r.mono (hid_le_mono le)) rp f _ fun H3 acc' as' x3 d3 r3 f3 => ⟨acc', as', x3, d3, r3, f3⟩
  · refine .inl ⟨wk2 (by omega), ?_⟩
    rw [List.drop_eq_nil_of_le (by omega)] at f
    exact fin H' acc as x dm' hd r f

section
variable {P : Pm} {ct : Ct} {X : Cx} {k : Nat} {K : PySem.W.Frag} {O0 O : List Addr} {H0 H : Hp} {σ : L2.St} {ρ : Env}
theorem Sim.grow {w : Wp} {iw : Nat} {D : Addr} {H1 H' : Hp} (S : Sim K w iw O0 H0 O H1 σ ρ) (hD : H1 D = none) (e : Ext w H1 H') (hD' : H' D ≠ none) : Sim K w iw O0 H0 (D :: O) H' σ ρ := by
  have le : Le (hid O H1) (hid (D :: O) H') := fun a o h => by
    have h1 := hid_out h
    have h2 := hid_le O H1 _ _ h
    have ne : a ≠ D := fun z => by subst z; rw [hD] at h2; cases h2
    exact hid_in (by simp [ne, h1]) (e.1 a o (fun z => h1 (S.wo a z)) h2)
  refine ⟨S.len, fun i s h => ?_, S.inj, fun p hp => ?_, S.dom0, fun p hp => List.mem_cons_of_mem _ (S.sub p hp), fun p hp => ?_, S.ent.trans e, S.w0, S.wO, S.wS, S.own⟩
  · have q := S.slot i s h
    cases s with
    | no => trivial
    | fx v => exact q
    | sh d =>
      obtain ⟨v, e1, r⟩ := q
      exact ⟨v, e1, r.mono le⟩
    | ow d =>
      obtain ⟨p, e1, hp, ds, vs, e2, hH, r⟩ := q
      refine ⟨p, e1, List.mem_cons_of_mem _ hp, ds, vs, e2, e.1 p _ (fun hw => ?_) hH, r.mono le⟩
      obtain ⟨kvs, z⟩ := is_dK S.wok hw
      rw [z] at hH
      cases hH
  · rcases List.mem_cons.mp hp with rfl | hp
    · exact hD'
    · exact (S.ext e).dom p hp
  · rcases List.mem_cons.mp hp with rfl | hp
    · cases q : H0 p with
      | none => exact .inr rfl
      | some o =>
        by_cases hw : w.is p
        · exact .inl (S.wO p hw)
        · rw [S.ent.1 p o hw q] at hD
          cases hD
    · exact S.fresh p hp
/-- the heap goes on, the object at D (no slot's) changes -/
theorem Sim.xd {w : Wp} {iw : Nat} {D : Addr} {Hs H' : Hp} (S : Sim K w iw O0 H0 O Hs σ ρ) (hDO : D ∈ O) (hn : ¬ SlOw σ ρ D) (x : XD w D Hs H') (hD' : H' D ≠ none) (h0 : H0 D = none) : Sim K w iw O0 H0 O H' σ ρ := by
  have le : Le (hid O Hs) (hid O H') := fun a o h => by
    have h1 := hid_out h
    exact hid_in h1 (x.1 a o (fun z => h1 (S.wo a z)) (fun z => h1 (by rw [z]; exact hDO)) (hid_le O Hs _ _ h))
  refine ⟨S.len, fun i s h => ?_, S.inj, fun p hp => ?_, S.dom0, S.sub, S.fresh, ⟨fun a o h1 h2 => ?_, x.2⟩, S.w0, S.wO, S.wS, S.own⟩
  · have q := S.slot i s h
    cases s with
    | no => trivial
    | fx v => exact q
    | sh d =>
      obtain ⟨v, e1, r⟩ := q
      exact ⟨v, e1, r.mono le⟩
    | ow d =>
      obtain ⟨p, e1, hp, ds, vs, e2, hH, r⟩ := q
      refine ⟨p, e1, hp, ds, vs, e2, x.1 p _ (fun hw => ?_) (fun z => hn ⟨i, d, h, by rw [← z]; exact join_some e1⟩) hH, r.mono le⟩
      obtain ⟨kvs, z⟩ := is_dK S.wok hw
      rw [z] at hH
      cases hH
  · intro hz
    by_cases e : p = D
    · subst e
      exact hD' hz
    · by_cases hw : w.is p
      · obtain ⟨kvs, z⟩ := is_dK x.2 hw
        rw [z] at hz
        cases hz
      · cases q : Hs p with
        | none => exact S.dom p hp q
        | some o => rw [x.1 p o hw e q] at hz; cases hz
  · exact x.1 a o h1 (fun z => by rw [z, h0] at h2; cases h2) (S.ent.1 a o h1 h2)
mutual
theorem ow_bind {i : Nat} {z : D} : ∀ {p : Pat} {d : D} {ρ ρ' : Env}, bindP p d ρ = some ρ' → ρ'[i]? = some (.ow z) → ρ[i]? = some (.ow z)
  | .nm j, d, ρ, ρ', e, h => by
    unfold bindP at e
    cases e
    by_cases hj : j = i
    · subst hj
      by_cases hl : j < ρ.length
      · rw [List.getElem?_set_self hl] at h
        cases h
      · rw [List.getElem?_eq_none (by simpa using hl)] at h
        cases h
    · rw [List.getElem?_set_ne hj] at h
      exact h
  | .tp ps, d, ρ, ρ', e, h => by
    cases d <;> unfold bindP at e <;> first | cases e | exact ow_binds e h
theorem ow_binds {i : Nat} {z : D} : ∀ {ps : Pats} {ds : List D} {ρ ρ' : Env}, bindPs ps ds ρ = some ρ' → ρ'[i]? = some (.ow z) → ρ[i]? = some (.ow z)
  | .nil, ds, ρ, ρ', e, h => by
    cases ds <;> unfold bindPs at e <;> cases e
    exact h
  | .cons p ps, ds, ρ, ρ', e, h => by
    cases ds with
    | nil => unfold bindPs at e; cases e
    | cons d ds =>
      unfold bindPs at e
      cases q : bindP p d ρ with
      | none => rw [q] at e; cases e
      | some ρ1 => rw [q] at e; exact ow_bind q (ow_binds e h)
end
theorem slOw_bind {p : Pat} {d : D} {vs : List Nat} {ρ ρ1 : Env} {σ σ2 : L2.St} (hb : bindP p d (wip vs ρ) = some ρ1) (hw : wipe σ2 vs = wipe (wipe σ vs) vs) {q : Addr} (h : SlOw σ2 ρ1 q) : SlOw σ ρ q := by
  obtain ⟨i, z, h1, h2⟩ := h
  have h3 := ow_bind hb h1
  rw [wip_get] at h3
  have hi : i ∉ vs := fun hm => by
    cases e : ρ[i]? with
    | none => rw [e] at h3; cases h3
    | some t => rw [e] at h3; simp [hm] at h3
  refine ⟨i, z, ?_, ?_⟩
  · cases e : ρ[i]? with
    | none => rw [e] at h3; cases h3
    | some t => rw [e] at h3; simpa [hi] using h3
  · have e := congrArg (fun l : L2.St => l[i]?) hw
    simp only [wipe_get, if_neg hi] at e
    rw [← e]
    exact h2
/-- a slot's own list stays -/
theorem slOw_keep {w : Wp} {iw : Nat} {D : Addr} {H1 H' : Hp} (S : Sim K w iw O0 H0 O H1 σ ρ) {p : Addr} (h : SlOw σ ρ p) (hn : p ≠ D) (x : ∀ a o, ¬ w.is a → a ≠ D → H1 a = some o → H' a = some o) : H' p = H1 p := by
  obtain ⟨i, z, h1, h2⟩ := h
  obtain ⟨q, e1, hp, ds, vs, e2, hH, r⟩ := S.slot i _ h1
  rw [h2] at e1
  cases e1
  rw [hH]
  refine x p _ (fun hw => ?_) hn hH
  obtain ⟨kvs, z⟩ := is_dK S.wok hw
  rw [z] at hH
  cases hH
theorem slOw_some {w : Wp} {iw : Nat} {H1 : Hp} (S : Sim K w iw O0 H0 O H1 σ ρ) {p : Addr} (h : SlOw σ ρ p) : H1 p ≠ none := by
  obtain ⟨i, z, h1, h2⟩ := h
  obtain ⟨q, e1, hp, ds, vs, e2, hH, r⟩ := S.slot i _ h1
  rw [h2] at e1
  cases e1
  rw [hH]
  simp
theorem wD {w : Wp} {H1 : Hp} {D : Addr} (wk : WOk w H1) (h : H1 D = none) : ∀ t, w = some t → D ≠ t.1 ∧ D ≠ t.2.1 := fun t ht => by
  subst ht
  obtain ⟨pw, pd, ns⟩ := t
  obtain ⟨j, h0, h1, h2⟩ := wk
  exact ⟨fun z => (show False from by rw [z, h1] at h; cases h), fun z => (show False from by rw [z, h2] at h; cases h)⟩

/-- one turn: target, test, element -/
abbrev gStep (P : Pm) (p : Pat) (t elt : E) (ρb : Env) (d : D) : W (Option D) := wM.bind (wM.lift (bindP p d ρb)) fun ρ1 => wM.bind (PV.ev wM P.C P.F P.G t ρ1) fun x => wM.bind (wM.lift (bool? x)) fun b => if b = true then wM.bind (PV.ev wM P.C P.F P.G elt ρ1) fun y => wM.pure (some y) else wM.pure none
theorem body_of {p : Pat} {t elt : E} {vs : List Nat} {H' : Hp} {x : V} {d : D} {R : Option D → Prop} {D : Addr} {Nx : Hp → Prop} (S : Sim K P.w P.iw O0 H0 O H' (wipe σ vs) ρ) (rp : Rp K (hid O H') x d) (hc : gStep P p t elt ρ d R)
    (hns : NoOw (esc true t ++ esc false elt) ρ) (hw : ∀ i ∈ p.ns, i ∈ vs) (n0 : ∀ H3, Ext P.w H' H3 → R none → Nx H3)
    (n1 : ∀ H4 v y, Ext P.w H' H4 → Rp K (hid O H4) v y → R (some y) → ∃ acc, H4 D = some (.lst acc) ∧ acc.length < sizeLine ∧ Nx (upd H4 D (.lst (acc ++ [v])))) :
    tG P K p x (wipe σ vs) H' fun σ2 H2 => wipe σ2 vs = wipe σ vs ∧ tT P K t σ2 H2 fun b H3 => if b = true then tE P K elt σ2 H3 fun y H4 => ∃ acc, H4 D = some (.lst acc) ∧ acc.length < sizeLine ∧ Nx (upd H4 D (.lst (acc ++ [y]))) else Nx H3 := by
  obtain ⟨ρ1, hb, hc⟩ := wbind hc
  refine ⟨O0, H0, O, ρ, d, ρ1, S, rp, hb, fun σ2 S2 hw2 => ⟨(hw2 vs hw).trans wipe_idem, O0, H0, O, ρ1, _, S2, noOw_bind hb (noOw_l hns), hc, fun d2 H3 hd e3 => ?_⟩⟩
  obtain ⟨b, hb2, hd⟩ := wbind hd
  refine ⟨b, hb2, ?_⟩
  cases b with
  | false => exact n0 H3 e3 hd
  | true => exact ⟨O0, H0, O, ρ1, _, S2.ext e3, noOw_bind hb (noOw_r hns), hd, fun y v H4 hy e4 res => n1 H4 v y (e3.trans e4) res.1 hy⟩
def ol (o : Option D) (ys : List D) : List D := match o with
  | some y => y :: ys
  | none => ys
theorem compL_cons {g : D → W (Option D)} {d : D} {rest : List D} {R : List D → Prop} (h : compL wM g (d :: rest) R) : g d fun o => compL wM g rest fun ys => R (ol o ys) := by
  unfold compL at h
  have e : (fun (o : Option D) (ys : List D) => wM.pure (match o with
    | some y => y :: ys
    | none => ys)) = fun o ys => wM.pure (ol o ys) := by
    funext o ys
    cases o <;> rfl
  have h' : wM.bind (g d) (fun o => wM.bind (compL wM g rest) ((fun (o : Option D) (ys : List D) => wM.pure (match o with
    | some y => y :: ys
    | none => ys)) o)) R := h
  rw [e] at h'
  exact h'
theorem comp_q {own : List Nat} {p : Pat} {s : Src} {t elt : E} (hp : ∀ i ∈ p.ns, i ∈ own) (hiw : P.iw ∉ own) {σ : L2.St} {H : Hp} {Q : VK} (q : tE P X.K (.comp own p s t elt) σ H Q) : tLc (tI P X.K false s) (tG P X.K p) (tT P X.K t) (tE P X.K elt) own σ H Q := by
  obtain ⟨O0, H0, O, ρ, R, S, es, ev, q⟩ := q
  have es : NoOw (escS s ++ (esc true t ++ esc false elt)) ρ := by simpa [esc] using es
  have ev : P.evS s ρ fun xs => compL wM (gStep P p t elt (PV.wip own ρ)) xs fun ys => R (.list ys) := by unfold Pm.ev PV.ev at ev; exact ev
  refine ⟨O0, H0, O, ρ, _, S, noOw_l es, ev, fun ds J H1 hd hl e1 wk D hD => ?_⟩
  have S1 := S.ext e1
  have hDO : D ∉ O := fun hm => S1.dom D hm hD
  have hu : (upd H1 D (.lst [])) D = some (.lst []) := by simp [upd]
  have xx : ∀ {H'}, XD P.w D (upd H1 D (.lst [])) H' → Ext P.w H1 H' := fun {H'} x => ⟨fun a o h1 h2 => by
    have ne : a ≠ D := fun z => by rw [z, hD] at h2; cases h2
    exact x.1 a o h1 ne (by rw [upd_ne ne]; exact h2), x.2⟩
  have dm0 : Dm (D :: O) (upd H1 D (.lst [])) := fun a ha hn => by
    by_cases e : a = D
    · subst e; rw [hu] at hn; cases hn
    · rw [upd_ne e] at hn
      rcases List.mem_cons.mp ha with z | z
      · exact e z
      · exact S1.dom a z hn
  refine lc_loop (K := X.K) (w := P.w) (O := D :: O) (G := Gk false σ ρ O H1) (fun rest as => as.length + rest.length ≤ LINE ∧ compL wM (gStep P p t elt (PV.wip own ρ)) rest fun ys => R (.list (as ++ ys))) (fun H' => Q (.ref D) H')
    (fun x H' Nx => tG P X.K p x (wipe σ own) H' fun σ2 H2 => wipe σ2 own = wipe σ own ∧ tT P X.K t σ2 H2 fun b H3 => if b = true then tE P X.K elt σ2 H3 fun y H4 => ∃ acc, H4 D = some (.lst acc) ∧ acc.length < sizeLine ∧ Nx (upd H4 D (.lst (acc ++ [y]))) else Nx H3)
    wk (fun H' x dm => ⟨dm, fun a o h => ?_, fun _ p hp => ?_⟩) dm0 ((Ext.new S1.wok hD).2) hu .nil ⟨by simpa using hl, hd⟩ (fun H' acc as x dm hd' r f => ?_) (fun d rest H' acc as x xd dm hd' r rp f Nx nx => ?_)
  · have h1 := hid_out h
    have h2 := hid_le O H1 _ _ h
    have ne : a ≠ D := fun z => by rw [z, hD] at h2; cases h2
    exact hid_in (by simp [ne, h1]) ((xx x).1 a o (fun z => h1 (S1.wo a z)) h2)
  · exact slOw_keep (D := D) S1 hp (fun z => slOw_some S1 hp (by rw [z]; exact hD)) fun a o h1 h2 h3 => (xx x).1 a o h1 h3
  · have hR : R (.list (as ++ [])) := f.2
    rw [List.append_nil] at hR
    refine q _ _ _ hR (e1.trans (xx x)) ⟨.lst (hid_in hDO hd') (r.mono (hid_sub fun a ha => List.mem_cons_of_mem _ ha)), fun _ _ => ?_⟩
    exact FrP.back (H1 := H1) ⟨D, acc, as, rfl, rfl, hD, hd', r⟩ e1
  · obtain ⟨fl, fc⟩ := f
    have SD : Sim X.K P.w P.iw O0 H0 (D :: O) H' (wipe σ own) (PV.wip own ρ) := (S1.grow hD (xx xd) (by rw [hd']; simp)).wip hiw
    have hwD := wD S1.wok hD
    refine body_of (R := fun o => compL wM (gStep P p t elt (PV.wip own ρ)) rest fun ys => R (.list (as ++ ol o ys))) SD rp (compL_cons fc) (noOw_wip (noOw_r es)) hp (fun H3 e3 h => ?_) (fun H4 v y e4 ry h => ?_)
    · refine nx H3 acc as (xd.ext e3) (e3.1 D _ (fun z => ?_) hd') (r.mono (e3.hid SD.wo)) ⟨by simp only [List.length_cons] at fl; omega, h⟩
      obtain ⟨kvs, q⟩ := is_dK xd.2 z
      rw [hd'] at q
      cases q
    · have h4 : H4 D = some (.lst acc) := e4.1 D _ (fun z => by
        obtain ⟨kvs, q⟩ := is_dK xd.2 z
        rw [hd'] at q
        cases q) hd'
      have hal := r.length
      refine ⟨acc, h4, by rw [← line_eq, hal]; simp only [List.length_cons] at fl; omega, nx _ (acc ++ [v]) (as ++ [y]) ((xd.ext e4).upd hwD) (by simp [upd]) ?_ ⟨by simp only [List.length_cons, List.length_append, List.length_nil] at fl ⊢; omega, ?_⟩⟩
      · rw [hid_upd (by simp)]
        exact (r.mono (e4.hid SD.wo)).append (.cons ry .nil)
      · have e : (fun ys => R (.list (as ++ ol (some y) ys))) = fun ys => R (.list ((as ++ [y]) ++ ys)) := by
          funext ys
          simp [ol]
        rw [← e]
        exact h
theorem snd_comp (g : Gd P ct X k) {own : List Nat} {p : Pat} {s : Src} {t elt : E} {el tg it : Expr} {ifs : List Expr} {scope : Scope} {pos : Pos} (hb : blkB ct scope own = true) (hp : ∀ i ∈ p.ns, i ∈ own) (hi : PI X tg it (tI P X.K false s)) (hs : ∀ x, foldedSetIterable it X.env x = pure x)
    (hg : ∀ X, Gd P (ct.blk scope) X k → PG X tg (tG P X.K p)) (ht : ∀ X, Gd P (ct.blk scope) X k → PTs X ifs (tT P X.K t)) (he : ∀ X, Gd P (ct.blk scope) X k → PE X el (tE P X.K elt)) :
    PE X (.ListComp el [⟨tg, it, ifs, 0⟩] scope pos) (tE P X.K (.comp own p s t elt)) := by
  obtain ⟨ok, hown, hiw⟩ := blk_ok g hb
  refine (pe_lc (te := tE P X.K elt) (tt := tT P X.K t) (g := tG P X.K p) g.calm (by rw [g.hN]; exact g.nd) hi ok (fun s H C cl fp => hg _ (g.blk scope s H C cl fp)) (fun s H C cl fp => ht _ (g.blk scope s H C cl fp)) (fun s H C cl fp => he _ (g.blk scope s H C cl fp)) hs).imp fun σ H Q q => ?_
  rw [hown]
  exact comp_q hp hiw q
/-- name = [..] on one line -/
theorem set_comp (g : Gd P ct X k) {i : Nat} {y : Str} {own : List Nat} {p : Pat} {s : Src} {t elt : E} {el tg it : Expr} {ifs : List Expr} {scope : Scope} {pos py spos : Pos} (hy : X.N[i]? = some y) (hyl : X.env.scope.names.lookup y = some .local) (hsw : swapsWith (.ListComp el [⟨tg, it, ifs, 0⟩] scope pos) (some (.Name y py)) spos.line X.env = pure true)
    (hb : blkB ct scope own = true) (hp : ∀ i ∈ p.ns, i ∈ own) (hi : PI X tg it (tI P X.K false s)) (hs : ∀ x, foldedSetIterable it X.env x = pure x)
    (hg : ∀ X, Gd P (ct.blk scope) X k → PG X tg (tG P X.K p)) (ht : ∀ X, Gd P (ct.blk scope) X k → PTs X ifs (tT P X.K t)) (he : ∀ X, Gd P (ct.blk scope) X k → PE X el (tE P X.K elt)) :
    PS X (.Assign [.Name y py] (.ListComp el [⟨tg, it, ifs, 0⟩] scope pos) spos) (tAsg (tE P X.K (.comp own p s t elt)) (gName i)) := by
  obtain ⟨ok, hown, hiw⟩ := blk_ok g hb
  have h := ps_setLc (te := tE P X.K elt) (tt := tT P X.K t) (g := tG P X.K p) g.calm (by rw [g.hN]; exact g.nd) hy hyl hsw hi ok (fun s H C cl fp => hg _ (g.blk scope s H C cl fp)) (fun s H C cl fp => ht _ (g.blk scope s H C cl fp)) (fun s H C cl fp => he _ (g.blk scope s H C cl fp)) hs
  rw [hown] at h
  exact ⟨fun pins s σ H D I q => h.run pins s σ H D I (comp_q hp hiw q)⟩
end
end PV

set_option maxHeartbeats 4000000
/-! PV: comprehensions of two clauses; all expressions. -/
namespace PV
open PySem L2 RZ

section
variable {P : Pm} {ct : Ct} {X : Cx} {k : Nat}
abbrev gSrc (P : Pm) (p : Pat) (t : E) (s1 : Src) (own1 : List Nat) (ρb : Env) (d : D) : W (Option (Env × List D)) := wM.bind (wM.lift (bindP p d ρb)) fun ρ1 => wM.bind (PV.ev wM P.C P.F P.G t ρ1) fun x => wM.bind (wM.lift (bool? x)) fun b => if b = true then wM.bind (PV.evS wM P.C P.F P.G s1 ρ1) fun zs => wM.pure (some (PV.wip own1 ρ1, zs)) else wM.pure none
abbrev gIn (P : Pm) (p1 : Pat) (t1 elt : E) (ρ1 : Env) (d : D) : W (Option D) := gStep P p1 t1 elt ρ1 d
theorem compLL_cons {src : D → W (Option (Env × List D))} {gg : Env → D → W (Option D)} {acc rest : List D} {d : D} {R : List D → Prop} (h : compLL wM src gg acc (d :: rest) R) : src d fun o => match o with
    | none => compLL wM src gg acc rest R
    | some (ρ, zs) => acc.length + zs.length ≤ LINE ∧ compL wM (gg ρ) zs fun ys => compLL wM src gg (acc ++ ys) rest R := by
  unfold compLL at h
  have e : (fun (o : Option (Env × List D)) => (match o with
      | none => compLL wM src gg acc rest
      | some (ρ, zs) => if acc.length + zs.length ≤ LINE then wM.bind (compL wM (gg ρ) zs) fun ys => compLL wM src gg (acc ++ ys) rest else wM.fail) R) =
      fun o => match o with
    | none => compLL wM src gg acc rest R
    | some (ρ, zs) => acc.length + zs.length ≤ LINE ∧ compL wM (gg ρ) zs fun ys => compLL wM src gg (acc ++ ys) rest R := by
    funext o
    cases o with
    | none => rfl
    | some q =>
      obtain ⟨ρ, zs⟩ := q
      show (if acc.length + zs.length ≤ LINE then wM.bind (compL wM (gg ρ) zs) fun ys => compLL wM src gg (acc ++ ys) rest else wM.fail) R = _
      by_cases hl : acc.length + zs.length ≤ LINE
      · rw [if_pos hl]
        exact propext ⟨fun z => ⟨hl, z⟩, fun z => z.2⟩
      · rw [if_neg hl]
        exact propext ⟨fun z => False.elim z, fun z => hl z.1⟩
  have h' : src d (fun o => (match o with
      | none => compLL wM src gg acc rest
      | some (ρ, zs) => if acc.length + zs.length ≤ LINE then wM.bind (compL wM (gg ρ) zs) fun ys => compLL wM src gg (acc ++ ys) rest else wM.fail) R) := h
  rw [e] at h'
  exact h'
theorem comp2_q {own own1 : List Nat} {p p1 : Pat} {s s1 : Src} {t t1 elt : E} (h1o : ∀ i ∈ own1, i ∈ own) (hp : ∀ i ∈ p.ns, i ∈ own) (hp1 : ∀ i ∈ p1.ns, i ∈ own1) (hiw : P.iw ∉ own) {σ : L2.St} {H : Hp} {Q : VK} (q : tE P X.K (.comp2 own own1 p s t p1 s1 t1 elt) σ H Q) :
    tLc2 (tI P X.K false s) (tG P X.K p) (tT P X.K t) (tI P X.K false s1) (tG P X.K p1) (tT P X.K t1) (tE P X.K elt) own own1 σ H Q := by
  obtain ⟨O0, H0, O, ρ, R, S, es, ev, q⟩ := q
  have es : NoOw (escS s ++ (esc true t ++ (escS s1 ++ (esc true t1 ++ esc false elt)))) ρ := by simpa [esc] using es
  have ev : P.evS s ρ fun xs => compLL wM (gSrc P p t s1 own1 (PV.wip own ρ)) (gIn P p1 t1 elt) [] xs fun ys => R (.list ys) := by unfold Pm.ev PV.ev at ev; exact ev
  refine ⟨O0, H0, O, ρ, _, S, noOw_l es, ev, fun ds J H1 hd hl e1 wk D hD => ?_⟩
  have S1 := S.ext e1
  have hDO : D ∉ O := fun hm => S1.dom D hm hD
  have hu : (upd H1 D (.lst [])) D = some (.lst []) := by simp [upd]
  have xx : ∀ {H'}, XD P.w D (upd H1 D (.lst [])) H' → Ext P.w H1 H' := fun {H'} x => ⟨fun a o h1 h2 => by
    have ne : a ≠ D := fun z => by rw [z, hD] at h2; cases h2
    exact x.1 a o h1 ne (by rw [upd_ne ne]; exact h2), x.2⟩
  have dm0 : Dm (D :: O) (upd H1 D (.lst [])) := fun a ha hn => by
    by_cases e : a = D
    · subst e; rw [hu] at hn; cases hn
    · rw [upd_ne e] at hn
      rcases List.mem_cons.mp ha with z | z
      · exact e z
      · exact S1.dom a z hn
  have hwD := wD S1.wok hD
  have nwD : ∀ {H' : Hp} {acc : List V}, WOk P.w H' → H' D = some (.lst acc) → ¬ P.w.is D := fun {H' acc} wk h z => by
    obtain ⟨kvs, q⟩ := is_dK wk z
    rw [h] at q
    cases q
  refine lc_loop (K := X.K) (w := P.w) (O := D :: O) (G := Gk false σ ρ O H1) (fun rest as => compLL wM (gSrc P p t s1 own1 (PV.wip own ρ)) (gIn P p1 t1 elt) as rest fun ys => R (.list ys)) (fun H' => Q (.ref D) H')
    (fun x H' Nx => tG P X.K p x (wipe σ own) H' fun σ2 H2 => wipe σ2 own = wipe σ own ∧ tT P X.K t σ2 H2 fun b H3 =>
      if b = true then tI P X.K false s1 σ2 H3 fun J1 H4 => ∃ W1 : Nat → Nat → Hp → Prop, (∃ m, W1 0 m H4) ∧ ∀ j k H, W1 j k H →
        (J1.stop j H ∧ Nx H) ∨ (J1.go j H ∧ ∃ Nx1 : Hp → Prop, (∀ H', Nx1 H' → ∃ k', k' < k ∧ W1 (j + 1) k' H') ∧ ∀ x H', J1.yld j H x H' → tG P X.K p1 x (wipe σ2 own1) H' fun σ3 H5 => wipe σ3 own1 = wipe σ2 own1 ∧ tT P X.K t1 σ3 H5 fun b H6 =>
          if b = true then tE P X.K elt σ3 H6 fun y H7 => ∃ acc, H7 D = some (.lst acc) ∧ acc.length < sizeLine ∧ Nx1 (upd H7 D (.lst (acc ++ [y]))) else Nx1 H6)
      else Nx H3)
    wk (fun H' x dm => ⟨dm, fun a o h => ?_, fun _ p hp => ?_⟩) dm0 ((Ext.new S1.wok hD).2) hu .nil hd (fun H' acc as x dm hd' r f => ?_) (fun d rest H' acc as x xd dm hd' r rp f Nx nx => ?_)
  · have h1 := hid_out h
    have h2 := hid_le O H1 _ _ h
    have ne : a ≠ D := fun z => by rw [z, hD] at h2; cases h2
    exact hid_in (by simp [ne, h1]) ((xx x).1 a o (fun z => h1 (S1.wo a z)) h2)
  · exact slOw_keep (D := D) S1 hp (fun z => slOw_some S1 hp (by rw [z]; exact hD)) fun a o h1 h2 h3 => (xx x).1 a o h1 h3
  · have hR : R (.list as) := by unfold compLL at f; exact f
    refine q _ _ _ hR (e1.trans (xx x)) ⟨.lst (hid_in hDO hd') (r.mono (hid_sub fun a ha => List.mem_cons_of_mem _ ha)), fun _ _ => ?_⟩
    exact FrP.back (H1 := H1) ⟨D, acc, as, rfl, rfl, hD, hd', r⟩ e1
  · have SD0 := S1.grow hD (xx xd) (by rw [hd']; simp)
    have SD : Sim X.K P.w P.iw O0 H0 (D :: O) H' (wipe σ own) (PV.wip own ρ) := SD0.wip hiw
    have h0D : H0 D = none := by
      cases z : H0 D with
      | none => rfl
      | some o =>
        by_cases hw : P.w.is D
        · exact absurd hw (nwD xd.2 hd')
        · have z2 := S1.ent.1 D o hw z
          rw [hD] at z2
          cases z2
    have f := compLL_cons f
    obtain ⟨ρ1, hbd, f⟩ := wbind (f := fun ρ1 => wM.bind (PV.ev wM P.C P.F P.G t ρ1) fun x => wM.bind (wM.lift (bool? x)) fun b => if b = true then wM.bind (PV.evS wM P.C P.F P.G s1 ρ1) fun zs => wM.pure (some (PV.wip own1 ρ1, zs)) else wM.pure none) f
    have esb := noOw_bind hbd (noOw_wip (noOw_r es))
    refine ⟨O0, H0, D :: O, PV.wip own ρ, d, ρ1, SD, rp, hbd, fun σ2 S2 hw2 => ⟨(hw2 own hp).trans wipe_idem, O0, H0, D :: O, ρ1, _, S2, noOw_l esb, f, fun d2 H3 hd2 e3 => ?_⟩⟩
    obtain ⟨b, hb2, hd2⟩ := wbind hd2
    refine ⟨b, hb2, ?_⟩
    have h3 : H3 D = some (.lst acc) := e3.1 D _ (nwD xd.2 hd') hd'
    cases b with
    | false => exact nx H3 acc as (xd.ext e3) h3 (r.mono (e3.hid SD.wo)) hd2
    | true =>
      refine ⟨O0, H0, D :: O, ρ1, _, S2.ext e3, noOw_l (noOw_r esb), hd2, fun zs J1 H4 hz hzl e4 wk1 => ?_⟩
      obtain ⟨hlen, hz⟩ := hz
      have S4 := (S2.ext e3).ext e4
      have h4 : H4 D = some (.lst acc) := e4.1 D _ (nwD e3.2 h3) h3
      have r4 := (r.mono (e3.hid SD.wo)).mono (e4.hid SD.wo)
      have xd4 := (xd.ext e3).ext e4
      have hnS : ¬ SlOw σ2 ρ1 D := fun z => slOw_some S1 (slOw_bind hbd (hw2 own hp) z) hD
      have tr : ∀ {H'}, XD P.w D H4 H' → XD P.w D (upd H1 D (.lst [])) H' := fun {H'} y => ⟨fun a o k1 k2 k3 => y.1 a o k1 k2 (xd4.1 a o k1 k2 k3), y.2⟩
      refine lc_loop (K := X.K) (w := P.w) (O := D :: O) (G := Gk false σ2 ρ1 (D :: O) H4) (fun rest1 as1 => as1.length + rest1.length ≤ LINE ∧ compL wM (gIn P p1 t1 elt (PV.wip own1 ρ1)) rest1 fun ys => compLL wM (gSrc P p t s1 own1 (PV.wip own ρ)) (gIn P p1 t1 elt) (as1 ++ ys) rest fun ys => R (.list ys)) Nx
        (fun x H' Nx1 => tG P X.K p1 x (wipe σ2 own1) H' fun σ3 H5 => wipe σ3 own1 = wipe σ2 own1 ∧ tT P X.K t1 σ3 H5 fun b H6 =>
          if b = true then tE P X.K elt σ3 H6 fun y H7 => ∃ acc, H7 D = some (.lst acc) ∧ acc.length < sizeLine ∧ Nx1 (upd H7 D (.lst (acc ++ [y]))) else Nx1 H6)
        wk1 (fun H' x dm => ⟨dm, fun a o h => ?_, fun _ p hp => ?_⟩) S4.dom S4.wok h4 r4 ⟨hlen, hz⟩ (fun H' acc as x dm hd' r f => ?_) (fun d rest1 H' acc as x xd1 dm hd' r rp f Nx1 nx1 => ?_)
      · have h1 := hid_out h
        exact hid_in h1 (x.1 a o (fun z => h1 (S4.wo a z)) (fun z => h1 (by rw [z]; simp)) (hid_le _ _ _ _ h))
      · exact slOw_keep (D := D) S4 hp (fun z => hnS (by rw [← z]; exact hp)) x.1
      · have hR := f.2
        have hR : compLL wM (gSrc P p t s1 own1 (PV.wip own ρ)) (gIn P p1 t1 elt) (as ++ []) rest fun ys => R (.list ys) := hR
        rw [List.append_nil] at hR
        exact nx H' acc as (tr x) hd' r hR
      · obtain ⟨fl, fc⟩ := f
        have SI : Sim X.K P.w P.iw O0 H0 (D :: O) H' (wipe σ2 own1) (PV.wip own1 ρ1) := (S4.xd (by simp) hnS xd1 (by rw [hd']; simp) h0D).wip fun z => hiw (h1o _ z)
        refine body_of (R := fun o => compL wM (gIn P p1 t1 elt (PV.wip own1 ρ1)) rest1 fun ys => compLL wM (gSrc P p t s1 own1 (PV.wip own ρ)) (gIn P p1 t1 elt) (as ++ ol o ys) rest fun ys => R (.list ys)) SI rp (compL_cons fc) (noOw_wip (noOw_r (noOw_r esb))) hp1 (fun H3 e3 h => ?_) (fun H4 v y e4 ry h => ?_)
        · exact nx1 H3 acc as (xd1.ext e3) (e3.1 D _ (nwD xd1.2 hd') hd') (r.mono (e3.hid SI.wo)) ⟨by simp only [List.length_cons] at fl; omega, h⟩
        · have h4' : H4 D = some (.lst acc) := e4.1 D _ (nwD xd1.2 hd') hd'
          have hal := r.length
          refine ⟨acc, h4', by rw [← line_eq, hal]; simp only [List.length_cons] at fl; omega, nx1 _ (acc ++ [v]) (as ++ [y]) ((xd1.ext e4).upd hwD) (by simp [upd]) ?_ ⟨by simp only [List.length_cons, List.length_append, List.length_nil] at fl ⊢; omega, ?_⟩⟩
          · rw [hid_upd (by simp)]
            exact (r.mono (e4.hid SI.wo)).append (.cons ry .nil)
          · have e : (fun ys => compLL wM (gSrc P p t s1 own1 (PV.wip own ρ)) (gIn P p1 t1 elt) (as ++ ol (some y) ys) rest fun ys => R (.list ys)) = fun ys => compLL wM (gSrc P p t s1 own1 (PV.wip own ρ)) (gIn P p1 t1 elt) ((as ++ [y]) ++ ys) rest fun ys => R (.list ys) := by
              funext ys
              simp [ol]
            rw [← e]
            exact h
theorem snd_comp2 (g : Gd P ct X k) {own own1 : List Nat} {p p1 : Pat} {s s1 : Src} {t t1 elt : E} {el tg it tg1 it1 : Expr} {ifs ifs1 : List Expr} {scope : Scope} {pos : Pos} (hb : blkB ct scope own = true) (h1o : ∀ i ∈ own1, i ∈ own) (hp : ∀ i ∈ p.ns, i ∈ own) (hp1 : ∀ i ∈ p1.ns, i ∈ own1)
    (hi : PI X tg it (tI P X.K false s)) (hs : ∀ x, foldedSetIterable it X.env x = pure x) (hs1 : ∀ env x, foldedSetIterable it1 env x = pure x)
    (hg : ∀ X, Gd P (ct.blk scope) X k → PG X tg (tG P X.K p)) (ht : ∀ X, Gd P (ct.blk scope) X k → PTs X ifs (tT P X.K t)) (hi1 : ∀ X, Gd P (ct.blk scope) X k → PI X tg1 it1 (tI P X.K false s1))
    (hg1 : ∀ X, Gd P (ct.blk scope) X k → PG X tg1 (tG P X.K p1)) (ht1 : ∀ X, Gd P (ct.blk scope) X k → PTs X ifs1 (tT P X.K t1)) (he : ∀ X, Gd P (ct.blk scope) X k → PE X el (tE P X.K elt)) :
    PE X (.ListComp el [⟨tg, it, ifs, 0⟩, ⟨tg1, it1, ifs1, 0⟩] scope pos) (tE P X.K (.comp2 own own1 p s t p1 s1 t1 elt)) := by
  obtain ⟨ok, hown, hiw⟩ := blk_ok g hb
  refine (pe_lc2 (vs1 := own1) (te := tE P X.K elt) (tt := tT P X.K t) (g := tG P X.K p) (tt1 := tT P X.K t1) (g1 := tG P X.K p1) (wi1 := tI P X.K false s1) g.calm (by rw [g.hN]; exact g.nd) hi ok (fun i hi => by rw [hown]; exact h1o i hi) (fun s H C cl fp => hg _ (g.blk scope s H C cl fp))
    (fun s H C cl fp => ht _ (g.blk scope s H C cl fp)) (fun s H C cl fp => hi1 _ (g.blk scope s H C cl fp)) (fun s H C cl fp => hg1 _ (g.blk scope s H C cl fp)) (fun s H C cl fp => ht1 _ (g.blk scope s H C cl fp)) (fun s H C cl fp => he _ (g.blk scope s H C cl fp)) hs hs1).imp fun σ H Q q => ?_
  rw [hown]
  exact comp2_q h1o hp hp1 hiw q
theorem set_comp2 (g : Gd P ct X k) {i : Nat} {y : Str} {own own1 : List Nat} {p p1 : Pat} {s s1 : Src} {t t1 elt : E} {el tg it tg1 it1 : Expr} {ifs ifs1 : List Expr} {scope : Scope} {pos py spos : Pos} (hy : X.N[i]? = some y) (hyl : X.env.scope.names.lookup y = some .local)
    (hsw : swapsWith (.ListComp el [⟨tg, it, ifs, 0⟩, ⟨tg1, it1, ifs1, 0⟩] scope pos) (some (.Name y py)) spos.line X.env = pure true) (hb : blkB ct scope own = true) (h1o : ∀ i ∈ own1, i ∈ own) (hp : ∀ i ∈ p.ns, i ∈ own) (hp1 : ∀ i ∈ p1.ns, i ∈ own1)
    (hi : PI X tg it (tI P X.K false s)) (hs : ∀ x, foldedSetIterable it X.env x = pure x) (hs1 : ∀ env x, foldedSetIterable it1 env x = pure x)
    (hg : ∀ X, Gd P (ct.blk scope) X k → PG X tg (tG P X.K p)) (ht : ∀ X, Gd P (ct.blk scope) X k → PTs X ifs (tT P X.K t)) (hi1 : ∀ X, Gd P (ct.blk scope) X k → PI X tg1 it1 (tI P X.K false s1))
    (hg1 : ∀ X, Gd P (ct.blk scope) X k → PG X tg1 (tG P X.K p1)) (ht1 : ∀ X, Gd P (ct.blk scope) X k → PTs X ifs1 (tT P X.K t1)) (he : ∀ X, Gd P (ct.blk scope) X k → PE X el (tE P X.K elt)) :
    PS X (.Assign [.Name y py] (.ListComp el [⟨tg, it, ifs, 0⟩, ⟨tg1, it1, ifs1, 0⟩] scope pos) spos) (tAsg (tE P X.K (.comp2 own own1 p s t p1 s1 t1 elt)) (gName i)) := by
  obtain ⟨ok, hown, hiw⟩ := blk_ok g hb
  have h := ps_setLc2 (vs1 := own1) (te := tE P X.K elt) (tt := tT P X.K t) (g := tG P X.K p) (tt1 := tT P X.K t1) (g1 := tG P X.K p1) (wi1 := tI P X.K false s1) g.calm (by rw [g.hN]; exact g.nd) hy hyl hsw hi ok (fun i hi => by rw [hown]; exact h1o i hi) (fun s H C cl fp => hg _ (g.blk scope s H C cl fp))
    (fun s H C cl fp => ht _ (g.blk scope s H C cl fp)) (fun s H C cl fp => hi1 _ (g.blk scope s H C cl fp)) (fun s H C cl fp => hg1 _ (g.blk scope s H C cl fp)) (fun s H C cl fp => ht1 _ (g.blk scope s H C cl fp)) (fun s H C cl fp => he _ (g.blk scope s H C cl fp)) hs hs1
  rw [hown] at h
  exact ⟨fun pins s σ H D I q => h.run pins s σ H D I (comp2_q h1o hp hp1 hiw q)⟩
end
end PV

set_option maxHeartbeats 4000000
/-! PV: every expression of the checked form. -/
namespace PV
open PySem L2 RZ

theorem fsi {x : Expr} (h : notSet x = true) (env : PySem.Env) (v : Value) : foldedSetIterable x env v = pure v := by
  cases x <;> first | rfl | (simp [notSet] at h)
theorem chkT_eq {ct : Ct} {t : E} {ifs : List Expr} (h : chkT ct t ifs = true) : (t = .yes ∧ ifs = []) ∨ ∃ x, ifs = [x] ∧ chkE ct t x = true := by
  rcases ifs with _ | ⟨x, _ | ⟨y, r⟩⟩
  · cases t <;> first | exact .inl ⟨rfl, rfl⟩ | cases h
  · have h : (!isYes t && chkE ct t x) = true := h
    rw [Bool.and_eq_true] at h
    exact .inr ⟨x, rfl, h.2⟩
  · cases h
theorem chkO_eq {ct : Ct} {c : E} {o : Option Expr} (h : chkO ct c o = true) : (c = .none ∧ o = none) ∨ ∃ x, o = some x ∧ chkE ct c x = true ∧ ∀ d o, bound? c d = some o → ∃ i, d = .int i ∧ o = some i := by
  cases o with
  | none => cases c <;> first | exact .inl ⟨rfl, rfl⟩ | cases h
  | some x =>
    have h : (!isNo c && chkE ct c x) = true := h
    rw [Bool.and_eq_true] at h
    exact .inr ⟨x, rfl, h.2, fun d o z => bnd_int (by cases c <;> first | rfl | (simp [isNo] at h)) z⟩
theorem chkEs_len {ct : Ct} {env : PySem.Env} : ∀ {cs : Es} {xs : List Expr}, chkEs ct cs xs = true → cs.len = xs.length ∧ ∀ pos, (backTo pos (starEach xs env)).any (·.1) = false
  | .nil, [], _ => ⟨rfl, fun _ => rfl⟩
  | .nil, _ :: _, h => by unfold chkEs at h; cases h
  | .cons c cs, [], h => by unfold chkEs at h; cases h
  | .cons c cs, x :: xs, h => by
    unfold chkEs at h
    rw [Bool.and_eq_true, Bool.and_eq_true] at h
    obtain ⟨h1, h2, h3⟩ := h
    obtain ⟨k1, k2⟩ := chkEs_len (env := env) h3
    refine ⟨by simp [Es.len, k1], fun pos => ?_⟩
    rw [star_cons h1]
    show (false || (backTo pos (starEach xs env)).any (·.1)) = false
    rw [k2 pos]
    rfl
section
variable {P : Pm} {ct : Ct} {X : Cx} {k : Nat}
theorem both (g : Gd P ct X k) {c : E} {e : Expr} (hc : chkE ct c e = true) (h : PE X e (tE P X.K c)) (hn : notTest e = true) : PE X e (tE P X.K c) ∧ PT X e (tT P X.K c) :=
  ⟨h, pt_of_B (snd_B g hc h) (notTest_eq hn)⟩
theorem yes_ok {X : Cx} : PTs X [] (tT P X.K .yes) := ⟨fun pins s σ H Q I q => pts_nil.run pins s σ H Q I (by
  obtain ⟨O0, H0, O, ρ, R, S, es, ev, q⟩ := q
  have ev : R (.bool true) := by unfold Pm.ev PV.ev at ev; exact ev
  obtain ⟨b, hb, q⟩ := q _ H ev (Ext.refl S.wok)
  cases hb
  exact q)⟩
theorem bad_ok {X : Cx} {e : Expr} : PE X e (tE P X.K .bad) ∧ PT X e (tT P X.K .bad) := ⟨⟨fun pins s σ H Q I q => by
  obtain ⟨O0, H0, O, ρ, R, S, es, ev, q⟩ := q
  unfold Pm.ev PV.ev at ev
  exact False.elim ev⟩, ⟨fun pins s σ H Q I q => by
  obtain ⟨O0, H0, O, ρ, R, S, es, ev, q⟩ := q
  unfold Pm.ev PV.ev at ev
  exact False.elim ev⟩⟩
theorem chkS_fsi {ct : Ct} {s : Src} {tg e : Expr} (hc : chkS ct s tg e = true) : ∀ env x, foldedSetIterable e env x = pure x := by
  cases s with
  | val c =>
    unfold chkS at hc
    rw [Bool.and_eq_true] at hc
    exact fsi hc.1
  | _ =>
    unfold chkS at hc
    cases hv : vCall e with
    | none => rw [hv] at hc; cases hc
    | some q =>
      obtain ⟨x, es⟩ := q
      obtain ⟨p, q, rfl⟩ := vCall_eq hv
      exact fsi rfl
mutual
theorem sE : ∀ (c : E) {ct : Ct} {X : Cx} {e : Expr}, Gd P ct X k → chkE ct c e = true → PE X e (tE P X.K c) ∧ PT X e (tT P X.K c)
  | .none, ct, X, e, g, hc => by
    have h0 := hc
    unfold chkE at h0
    cases hv : vConst e with
    | none => rw [hv] at h0; cases h0
    | some c =>
      rw [hv] at h0
      obtain ⟨j, p, rfl⟩ := vConst_eq hv
      cases c <;> try (cases h0; done)
      exact both g hc (snd_const (v := .non) (d := .none) pe_non (fun ρ => by unfold Pm.ev PV.ev; rfl) (fun H => .non) rfl) rfl
  | .bl b, ct, X, e, g, hc => by
    have h0 := hc
    unfold chkE at h0
    cases hv : vConst e with
    | none => rw [hv] at h0; cases h0
    | some c =>
      rw [hv] at h0
      obtain ⟨j, p, rfl⟩ := vConst_eq hv
      cases c with
      | bool b2 =>
        obtain rfl : b = b2 := beq_iff_eq.mp h0
        exact both g hc (snd_const (v := .bl b) (d := .bool b) pe_bl (fun ρ => by unfold Pm.ev PV.ev; rfl) (fun H => .bl b) rfl) rfl
      | _ => cases h0
  | .int i, ct, X, e, g, hc => by
    have h0 := hc
    unfold chkE at h0
    cases hv : vConst e with
    | none => rw [hv] at h0; cases h0
    | some c =>
      rw [hv] at h0
      obtain ⟨j, p, rfl⟩ := vConst_eq hv
      cases c with
      | int b2 =>
        obtain rfl : i = b2 := beq_iff_eq.mp h0
        exact both g hc (snd_const (v := .int i) (d := .int i) pe_int (fun ρ => by unfold Pm.ev PV.ev; rfl) (fun H => .int i) rfl) rfl
      | _ => cases h0
  | .str i, ct, X, e, g, hc => by
    have h0 := hc
    unfold chkE at h0
    cases hv : vConst e with
    | none => rw [hv] at h0; cases h0
    | some c =>
      rw [hv] at h0
      obtain ⟨j, p, rfl⟩ := vConst_eq hv
      cases c with
      | str b2 =>
        obtain rfl : i = b2 := beq_iff_eq.mp h0
        exact both g hc (snd_const (v := .str i) (d := .str i) pe_str (fun ρ => by unfold Pm.ev PV.ev; rfl) (fun H => .str i) rfl) rfl
      | _ => cases h0
  | .var i, ct, X, e, g, hc => by
    have h0 := hc
    unfold chkE at h0
    cases hv : vName e with
    | none => rw [hv] at h0; cases h0
    | some x =>
      rw [hv] at h0
      obtain ⟨p, rfl⟩ := vName_eq hv
      exact both g hc (snd_var (pe_nm g h0)) rfl
  | .gl n, ct, X, e, g, hc => by
    have h0 := hc
    unfold chkE at h0
    cases hv : vName e with
    | none => rw [hv] at h0; cases h0
    | some x =>
      rw [hv] at h0
      obtain ⟨p, rfl⟩ := vName_eq hv
      simp only [Bool.and_eq_true] at h0
      exact both g hc (snd_gl g h0.1 h0.2.1 h0.2.2) rfl
  | .bin o a b, ct, X, e, g, hc => by
    have h0 := hc
    unfold chkE at h0
    cases hv : vBin e with
    | none => rw [hv] at h0; cases h0
    | some q =>
      obtain ⟨x, op, y⟩ := q
      rw [hv] at h0
      obtain ⟨p, rfl⟩ := vBin_eq hv
      simp only [Bool.and_eq_true, decide_eq_true_eq] at h0
      obtain ⟨rfl, ha, hb⟩ := h0
      exact both g hc (snd_bin (snd_B g ha (sE a g ha).1) (snd_B g hb (sE b g hb).1)) rfl
  | .neg a, ct, X, e, g, hc => by
    have h0 := hc
    unfold chkE at h0
    cases hv : vUn e with
    | none => rw [hv] at h0; cases h0
    | some q =>
      obtain ⟨op, x⟩ := q
      rw [hv] at h0
      obtain ⟨p, rfl⟩ := vUn_eq hv
      cases op <;> try (cases h0; done)
      exact both g hc (snd_neg (snd_B g h0 (sE a g h0).1)) rfl
  | .not a, ct, X, e, g, hc => by
    have h0 := hc
    unfold chkE at h0
    cases hv : vUn e with
    | none => rw [hv] at h0; cases h0
    | some q =>
      obtain ⟨op, x⟩ := q
      rw [hv] at h0
      obtain ⟨p, rfl⟩ := vUn_eq hv
      cases op <;> try (cases h0; done)
      exact ⟨snd_not (snd_B g h0 (sE a g h0).1), sndT_not (sE a g h0).2⟩
  | .and a b, ct, X, e, g, hc => by
    have h0 := hc
    unfold chkE at h0
    cases hv : vBool e with
    | none => rw [hv] at h0; cases h0
    | some q =>
      obtain ⟨op, vs, p⟩ := q
      rw [hv] at h0
      obtain rfl := vBool_eq hv
      cases op <;> try (cases h0; done)
      rcases vs with _ | ⟨x, _ | ⟨y, _ | ⟨z, r⟩⟩⟩
      · cases h0
      · cases h0
      · simp only [Bool.and_eq_true] at h0
        exact ⟨snd_and (sE a g h0.1).1 (pe_one (sE b g h0.2).1), (sndT_and (sE a g h0.1).2 (pw_and1 (sE b g h0.2).2)).pt⟩
      · simp only [Bool.and_eq_true] at h0
        exact ⟨snd_and (sE a g h0.1).1 (sE b g h0.2).1, (sndT_and (sE a g h0.1).2 (pw_of (sE b g h0.2).2)).pt⟩
  | .or a b, ct, X, e, g, hc => by
    have h0 := hc
    unfold chkE at h0
    cases hv : vBool e with
    | none => rw [hv] at h0; cases h0
    | some q =>
      obtain ⟨op, vs, p⟩ := q
      rw [hv] at h0
      obtain rfl := vBool_eq hv
      cases op <;> try (cases h0; done)
      rcases vs with _ | ⟨x, _ | ⟨y, _ | ⟨z, r⟩⟩⟩
      · cases h0
      · cases h0
      · simp only [Bool.and_eq_true] at h0
        exact ⟨snd_or (sE a g h0.1).1 (pe_one (sE b g h0.2).1), (sndT_or (sE a g h0.1).2 (pw_or1 (sE b g h0.2).2)).pt⟩
      · simp only [Bool.and_eq_true] at h0
        exact ⟨snd_or (sE a g h0.1).1 (sE b g h0.2).1, (sndT_or (sE a g h0.1).2 (pw_of (sE b g h0.2).2)).pt⟩
  | .cmp c a b, ct, X, e, g, hc => by
    have h0 := hc
    unfold chkE at h0
    cases hv : vCmp e with
    | none => rw [hv] at h0; cases h0
    | some q =>
      obtain ⟨x, os, bs⟩ := q
      rw [hv] at h0
      obtain ⟨p, rfl⟩ := vCmp_eq hv
      rcases os with _ | ⟨o, _ | ⟨o2, os⟩⟩
      · cases h0
      · rcases bs with _ | ⟨y, _ | ⟨y2, bs⟩⟩
        · cases h0
        · simp only [Bool.and_eq_true, decide_eq_true_eq] at h0
          obtain ⟨rfl, hs, ha, hb⟩ := h0
          exact ⟨snd_cmp g.room (snd_B g ha (sE a g ha).1) (snd_B g hb (sE b g hb).1) hs, sndT_cmp g.room (snd_B g ha (sE a g ha).1) (snd_B g hb (sE b g hb).1) hs⟩
        · cases h0
      · cases h0
  | .chain c1 c2 a b d, ct, X, e, g, hc => by
    have h0 := hc
    unfold chkE at h0
    cases hv : vCmp e with
    | none => rw [hv] at h0; cases h0
    | some q =>
      obtain ⟨x, os, bs⟩ := q
      rw [hv] at h0
      obtain ⟨p, rfl⟩ := vCmp_eq hv
      rcases os with _ | ⟨o, _ | ⟨o2, _ | ⟨o3, os⟩⟩⟩
      · cases h0
      · cases h0
      · rcases bs with _ | ⟨y, _ | ⟨y2, _ | ⟨y3, bs⟩⟩⟩
        · cases h0
        · cases h0
        · simp only [Bool.and_eq_true, decide_eq_true_eq] at h0
          obtain ⟨rfl, rfl, hs, ha, hb, hd⟩ := h0
          exact ⟨snd_chain g.room (snd_B g ha (sE a g ha).1) (snd_B g hb (sE b g hb).1) (snd_B g hd (sE d g hd).1) hs, sndT_chain g.room (snd_B g ha (sE a g ha).1) (snd_B g hb (sE b g hb).1) (snd_B g hd (sE d g hd).1) hs⟩
        · cases h0
      · cases h0
  | .chain3 c1 c2 c3 a b d gg, ct, X, e, g, hc => by
    have h0 := hc
    unfold chkE at h0
    cases hv : vCmp e with
    | none => rw [hv] at h0; cases h0
    | some q =>
      obtain ⟨x, os, bs⟩ := q
      rw [hv] at h0
      obtain ⟨p, rfl⟩ := vCmp_eq hv
      rcases os with _ | ⟨o, _ | ⟨o2, _ | ⟨o3, _ | ⟨o4, os⟩⟩⟩⟩
      · cases h0
      · cases h0
      · cases h0
      · rcases bs with _ | ⟨y, _ | ⟨y2, _ | ⟨y3, _ | ⟨y4, bs⟩⟩⟩⟩
        · cases h0
        · cases h0
        · cases h0
        · simp only [Bool.and_eq_true, decide_eq_true_eq] at h0
          obtain ⟨rfl, rfl, rfl, hs, ha, hb, hd, hg⟩ := h0
          exact ⟨snd_chain3 g.room (snd_B g ha (sE a g ha).1) (snd_B g hb (sE b g hb).1) (snd_B g hd (sE d g hd).1) (snd_B g hg (sE gg g hg).1) hs, sndT_chain3 g.room (snd_B g ha (sE a g ha).1) (snd_B g hb (sE b g hb).1) (snd_B g hd (sE d g hd).1) (snd_B g hg (sE gg g hg).1) hs⟩
        · cases h0
      · cases h0
  | .ife t a b, ct, X, e, g, hc => by
    have h0 := hc
    unfold chkE at h0
    cases hv : vIf e with
    | none => rw [hv] at h0; cases h0
    | some q =>
      obtain ⟨z, x, y⟩ := q
      rw [hv] at h0
      obtain ⟨p, rfl⟩ := vIf_eq hv
      simp only [Bool.and_eq_true] at h0
      obtain ⟨ht, ha, hb⟩ := h0
      exact ⟨snd_ife (sE t g ht).2 (sE a g ha).1 (sE b g hb).1, sndT_ife (sE t g ht).2 (sE a g ha).2 (sE b g hb).2⟩
  | .tup cs, ct, X, e, g, hc => by
    have h0 := hc
    unfold chkE at h0
    cases hv : vTup e with
    | none => rw [hv] at h0; cases h0
    | some xs =>
      rw [hv] at h0
      obtain ⟨j, p, rfl⟩ := vTup_eq hv
      simp only [Bool.and_eq_true, decide_eq_true_eq] at h0
      exact both g hc (snd_tup (sEs cs g h0.2) h0.1) rfl
  | .lst cs, ct, X, e, g, hc => by
    have h0 := hc
    unfold chkE at h0
    cases hv : vLst e with
    | none => rw [hv] at h0; cases h0
    | some xs =>
      rw [hv] at h0
      obtain ⟨p, rfl⟩ := vLst_eq hv
      simp only [Bool.and_eq_true, decide_eq_true_eq] at h0
      exact both g hc (snd_lst (sEs cs g h0.2) h0.1) rfl
  | .dct0, ct, X, e, g, hc => by unfold chkE at hc; cases hc
  | .ix a i, ct, X, e, g, hc => by
    have h0 := hc
    unfold chkE at h0
    cases hv : vSub e with
    | none => rw [hv] at h0; cases h0
    | some q =>
      obtain ⟨x, y⟩ := q
      rw [hv] at h0
      obtain ⟨p, rfl⟩ := vSub_eq hv
      simp only [Bool.and_eq_true] at h0
      obtain ⟨hs, ha, hb⟩ := h0
      exact both g hc (snd_ix (snd_B g ha (sE a g ha).1) (snd_B g hb (sE i g hb).1) (by simpa using hs)) rfl
  | .sl a lo hi, ct, X, e, g, hc => by
    have h0 := hc
    unfold chkE at h0
    cases hv : vSub e with
    | none => rw [hv] at h0; cases h0
    | some q =>
      obtain ⟨x, y⟩ := q
      rw [hv] at h0
      obtain ⟨p, rfl⟩ := vSub_eq hv
      cases hs : vSli y with
      | none => simp [hs] at h0
      | some q =>
        obtain ⟨l, h, s⟩ := q
        simp only [hs] at h0
        obtain ⟨p2, rfl⟩ := vSli_eq hs
        cases s with
        | some _ => cases h0
        | none =>
          have h0 : (chkE ct a x && (chkO ct lo l && chkO ct hi h)) = true := h0
          simp only [Bool.and_eq_true] at h0
          obtain ⟨ha, hl, hh⟩ := h0
          have ql : PO X l (tO P X.K lo) := by
            rcases chkO_eq hl with ⟨rfl, rfl⟩ | ⟨z, rfl, hz, hn⟩
            · exact po_no
            · exact po_yes (snd_B g hz (sE lo g hz).1) hn
          have qh : PO X h (tO P X.K hi) := by
            rcases chkO_eq hh with ⟨rfl, rfl⟩ | ⟨z, rfl, hz, hn⟩
            · exact po_no
            · exact po_yes (snd_B g hz (sE hi g hz).1) hn
          exact both g hc (snd_sl (snd_B g ha (sE a g ha).1) ql qh) rfl
  | .rev a, ct, X, e, g, hc => by
    have h0 := hc
    unfold chkE at h0
    cases hv : vSub e with
    | none => simp [hv] at h0
    | some q =>
      obtain ⟨x, y⟩ := q
      simp only [hv] at h0
      obtain ⟨p, rfl⟩ := vSub_eq hv
      cases hs : vSli y with
      | none => simp [hs] at h0
      | some q =>
        obtain ⟨l, h, s⟩ := q
        obtain ⟨p2, rfl⟩ := vSli_eq hs
        cases l with
        | some _ => simp [hs] at h0
        | none =>
          cases h with
          | some _ => simp [hs] at h0
          | none =>
            cases s with
            | none => simp [hs] at h0
            | some z =>
              cases hu : vUn z with
              | none => simp [hs, hu] at h0
              | some q2 =>
                obtain ⟨o, c⟩ := q2
                obtain ⟨p3, rfl⟩ := vUn_eq hu
                cases o <;> try (simp [hs, hu] at h0; done)
                cases hk : vConst c with
                | none => simp [hs, hu, hk] at h0
                | some v =>
                  obtain ⟨j, p4, rfl⟩ := vConst_eq hk
                  simp only [hs, hu, hk] at h0
                  split at h0
                  · rename_i i e1
                    cases e1
                    exact both g hc (snd_rev (snd_B g h0 (sE a g h0).1)) rfl
                  · cases h0
  | .yes, ct, X, e, g, hc => by unfold chkE at hc; cases hc
  | .comp own p s t elt, ct, X, e, g, hc => by
    have h0 := hc
    unfold chkE at h0
    cases hv : vLc1 e with
    | none => rw [hv] at h0; cases h0
    | some q =>
      obtain ⟨el, tg, it, ifs, scope⟩ := q
      rw [hv] at h0
      obtain ⟨ps, rfl⟩ := vLc1_eq hv
      simp only [Bool.and_eq_true] at h0
      obtain ⟨hb, hp, hs, hcp, ht, he⟩ := h0
      obtain ⟨hi, hf⟩ := sS s false g hs
      exact both g hc (snd_comp g hb (fun i hi => by simpa using List.all_eq_true.mp hp i hi) hi (hf X.env) (fun X' g' => snd_pat g' hcp)
        (fun X' g' => by
          rcases chkT_eq ht with ⟨e1, e2⟩ | ⟨x, e2, hx⟩
          · rw [e1, e2]; exact yes_ok
          · rw [e2]; exact pts_one (sE t g' hx).2)
        (fun X' g' => (sE elt g' he).1)) rfl
  | .comp2 own own1 p s t p1 s1 t1 elt, ct, X, e, g, hc => by
    have h0 := hc
    unfold chkE at h0
    cases hv : vLc2 e with
    | none => rw [hv] at h0; cases h0
    | some q =>
      obtain ⟨el, ⟨tg, it, ifs⟩, ⟨tg1, it1, ifs1⟩, scope⟩ := q
      rw [hv] at h0
      obtain ⟨ps, rfl⟩ := vLc2_eq hv
      simp only [Bool.and_eq_true] at h0
      obtain ⟨hb, h1o, hp, hp1, hs, hcp, ht, hs1, hcp1, ht1, he⟩ := h0
      obtain ⟨hi, hf⟩ := sS s false g hs
      exact both g hc (snd_comp2 g hb (fun i hi => by simpa using List.all_eq_true.mp h1o i hi) (fun i hi => by simpa using List.all_eq_true.mp hp i hi) (fun i hi => by simpa using List.all_eq_true.mp hp1 i hi) hi (hf X.env) (chkS_fsi hs1)
        (fun X' g' => snd_pat g' hcp)
        (fun X' g' => by
          rcases chkT_eq ht with ⟨e1, e2⟩ | ⟨x, e2, hx⟩
          · rw [e1, e2]; exact yes_ok
          · rw [e2]; exact pts_one (sE t g' hx).2)
        (fun X' g' => (sS s1 false g' hs1).1) (fun X' g' => snd_pat g' hcp1)
        (fun X' g' => by
          rcases chkT_eq ht1 with ⟨e1, e2⟩ | ⟨x, e2, hx⟩
          · rw [e1, e2]; exact yes_ok
          · rw [e2]; exact pts_one (sE t1 g' hx).2)
        (fun X' g' => (sE elt g' he).1)) rfl
  | .call f cs, ct, X, e, g, hc => by
    have h0 := hc
    unfold chkE at h0
    cases hv : vCall e with
    | none => rw [hv] at h0; cases h0
    | some q =>
      obtain ⟨x, es⟩ := q
      rw [hv] at h0
      obtain ⟨p, q, rfl⟩ := vCall_eq hv
      cases es with
      | nil => cases h0
      | cons y ys =>
        simp only [Bool.and_eq_true] at h0
        obtain ⟨hf, hg, hd, he⟩ := h0
        have hl := (chkEs_len (env := X.env) he).1
        cases cs with
        | nil => unfold chkEs at he; cases he
        | cons c cs =>
          have he2 := he
          unfold chkEs at he2
          rw [Bool.and_eq_true, Bool.and_eq_true] at he2
          obtain ⟨h1, h2, h3⟩ := he2
          exact both g hc (snd_call g hf hg hd h1 ((chkEs_len (env := X.env) h3).2 q) (snd_cons h1 (sE c g h2).1 (sEs cs g h3)) hl) rfl
  | .callw f cs, ct, X, e, g, hc => by
    have h0 := hc
    unfold chkE at h0
    cases hv : vCall e with
    | none => rw [hv] at h0; cases h0
    | some q =>
      obtain ⟨x, es⟩ := q
      rw [hv] at h0
      obtain ⟨p, q, rfl⟩ := vCall_eq hv
      cases es with
      | nil => cases h0
      | cons y ys =>
        have h0 : (match vName y with
          | some z => ct.fs.contains (f, x, (y :: ys).length, true) && (isGl ct x && (notDbg x && (ct.N[ct.iw]? == some z && (isVis ct.sc z && (notDbg z && chkEs ct cs ys)))))
          | none => false) = true := h0
        cases hy : vName y with
        | none => rw [hy] at h0; cases h0
        | some z =>
          rw [hy] at h0
          obtain ⟨pz, rfl⟩ := vName_eq hy
          simp only [Bool.and_eq_true] at h0
          obtain ⟨hf, hg, hd, k1, k2, k3, he⟩ := h0
          have hl := chkEs_len (env := X.env) he
          exact both g hc (snd_callw g hf hg hd (hl.2 q) (by simp only [Bool.and_eq_true]; exact ⟨k1, k2, k3⟩) (sEs cs g he) (by rw [hl.1]; rfl)) rfl
  | .bi b a, ct, X, e, g, hc => by
    have h0 := hc
    unfold chkE at h0
    cases hv : vCall e with
    | none => rw [hv] at h0; cases h0
    | some q =>
      obtain ⟨x, es⟩ := q
      rw [hv] at h0
      obtain ⟨p, q, rfl⟩ := vCall_eq hv
      rcases es with _ | ⟨y, _ | ⟨y2, ys⟩⟩
      · cases h0
      · simp only at h0
        split at h0
        · rename_i hS
          cases hv2 : vCall y with
          | none => rw [hv2] at h0; cases h0
          | some q2 =>
            obtain ⟨x2, es2⟩ := q2
            rw [hv2] at h0
            obtain ⟨p2, q2, rfl⟩ := vCall_eq hv2
            rcases es2 with _ | ⟨y2, _ | ⟨y3, ys⟩⟩
            · cases h0
            · simp only [Bool.and_eq_true] at h0
              obtain ⟨hx, hx2, hg, hg2, hs, ha⟩ := h0
              exact both g hc (snd_set g hS hx hx2 hg hg2 hs (snd_B g ha (sE a g ha).1)) rfl
            · cases h0
        · simp only [Bool.and_eq_true] at h0
          obtain ⟨hb, hx, hg, hs, ha⟩ := h0
          exact both g hc (snd_bi g hb hx hg hs (snd_B g ha (sE a g ha).1)) rfl
      · cases h0
  | .bis b s, ct, X, e, g, hc => by
    have h0 := hc
    unfold chkE at h0
    cases hv : vCall e with
    | none => rw [hv] at h0; cases h0
    | some q =>
      obtain ⟨x, es⟩ := q
      rw [hv] at h0
      obtain ⟨p, q, rfl⟩ := vCall_eq hv
      rcases es with _ | ⟨y, _ | ⟨y2, ys⟩⟩
      · cases h0
      · cases b <;> try (cases h0; done)
        · simp only [Bool.and_eq_true] at h0
          obtain ⟨hx, hg, hs, hr⟩ := h0
          obtain rfl : x = "tuple" := beq_iff_eq.mp hx
          obtain ⟨te, h1, h2⟩ := sR s g hr
          exact both g hc (snd_bis_t g hg hs h1 h2) rfl
        · simp only [Bool.and_eq_true] at h0
          obtain ⟨hx, hg, hs, hr⟩ := h0
          obtain rfl : x = "list" := beq_iff_eq.mp hx
          obtain ⟨te, h1, h2⟩ := sR s g hr
          exact both g hc (snd_bis_l g hg hs h1 h2) rfl
      · cases h0
  | .mx a b, ct, X, e, g, hc => by
    have h0 := hc
    unfold chkE at h0
    cases hv : vCall e with
    | none => rw [hv] at h0; cases h0
    | some q =>
      obtain ⟨x, es⟩ := q
      rw [hv] at h0
      obtain ⟨p, q, rfl⟩ := vCall_eq hv
      rcases es with _ | ⟨y, _ | ⟨y2, _ | ⟨y3, ys⟩⟩⟩
      · cases h0
      · cases h0
      · simp only [Bool.and_eq_true] at h0
        obtain ⟨hx, hg, hs, hs2, ha, hb⟩ := h0
        obtain rfl : x = "max" := beq_iff_eq.mp hx
        exact both g hc (snd_mx g hg hs hs2 (snd_B g ha (sE a g ha).1) (snd_B g hb (sE b g hb).1)) rfl
      · cases h0
  | .mn a b, ct, X, e, g, hc => by
    have h0 := hc
    unfold chkE at h0
    cases hv : vCall e with
    | none => rw [hv] at h0; cases h0
    | some q =>
      obtain ⟨x, es⟩ := q
      rw [hv] at h0
      obtain ⟨p, q, rfl⟩ := vCall_eq hv
      rcases es with _ | ⟨y, _ | ⟨y2, _ | ⟨y3, ys⟩⟩⟩
      · cases h0
      · cases h0
      · simp only [Bool.and_eq_true] at h0
        obtain ⟨hx, hg, hs, hs2, ha, hb⟩ := h0
        obtain rfl : x = "min" := beq_iff_eq.mp hx
        exact both g hc (snd_mn g hg hs hs2 (snd_B g ha (sE a g ha).1) (snd_B g hb (sE b g hb).1)) rfl
      · cases h0
  | .isin a t, ct, X, e, g, hc => by
    have h0 := hc
    unfold chkE at h0
    cases hv : vCall e with
    | none => rw [hv] at h0; cases h0
    | some q =>
      obtain ⟨x, es⟩ := q
      rw [hv] at h0
      obtain ⟨p, q, rfl⟩ := vCall_eq hv
      rcases es with _ | ⟨y, _ | ⟨y2, _ | ⟨y3, ys⟩⟩⟩
      · cases h0
      · cases h0
      · have h0 : (match vName y2 with
          | some n => x == ("isinstance" : Str) && (isGl ct x && (n == Str.ofString (tyN t) && (isGl ct n && (notStar y && chkE ct a y))))
          | none => false) = true := h0
        cases hy : vName y2 with
        | none => rw [hy] at h0; cases h0
        | some n =>
          rw [hy] at h0
          obtain ⟨pz, rfl⟩ := vName_eq hy
          have h0 : (x == ("isinstance" : Str) && (isGl ct x && (n == Str.ofString (tyN t) && (isGl ct n && (notStar y && chkE ct a y))))) = true := h0
          simp only [Bool.and_eq_true] at h0
          obtain ⟨hx, hg, hn, hg2, hs, ha⟩ := h0
          obtain rfl : x = "isinstance" := beq_iff_eq.mp hx
          exact both g hc (snd_isin g hg hn hg2 hs (snd_B g ha (sE a g ha).1)) rfl
      · cases h0
  | .count a x, ct, X, e, g, hc => by unfold chkE at hc; cases hc
  | .index a x, ct, X, e, g, hc => by unfold chkE at hc; cases hc
  | .get1 a x, ct, X, e, g, hc => by unfold chkE at hc; cases hc
  | .get2 a x y, ct, X, e, g, hc => by unfold chkE at hc; cases hc
  | .bad, ct, X, e, g, hc => bad_ok
theorem sEs : ∀ (cs : Es) {ct : Ct} {X : Cx} {es : List Expr}, Gd P ct X k → chkEs ct cs es = true → PA X es (tEs P X.K cs)
  | .nil, ct, X, [], g, hc => snd_nil
  | .nil, ct, X, _ :: _, g, hc => by unfold chkEs at hc; cases hc
  | .cons c cs, ct, X, [], g, hc => by unfold chkEs at hc; cases hc
  | .cons c cs, ct, X, x :: xs, g, hc => by
    unfold chkEs at hc
    rw [Bool.and_eq_true, Bool.and_eq_true] at hc
    obtain ⟨h1, h2, h3⟩ := hc
    exact snd_cons h1 (sE c g h2).1 (sEs cs g h3)
theorem sS : ∀ (s : Src) (fz : Bool) {ct : Ct} {X : Cx} {tg e : Expr}, Gd P ct X k → chkS ct s tg e = true → PI X tg e (tI P X.K fz s) ∧ ∀ env x, foldedSetIterable e env x = pure x
  | .val c, fz, ct, X, tg, e, g, hc => by
    unfold chkS at hc
    rw [Bool.and_eq_true] at hc
    exact ⟨snd_val (snd_M (sE c g hc.2).1 (snd_B g hc.2 (sE c g hc.2).1)), fsi hc.1⟩
  | .r1 a, fz, ct, X, tg, e, g, hc => by
    unfold chkS at hc
    cases hv : vCall e with
    | none => rw [hv] at hc; cases hc
    | some q =>
      obtain ⟨x, es⟩ := q
      rw [hv] at hc
      obtain ⟨p, q, rfl⟩ := vCall_eq hv
      rcases es with _ | ⟨y, _ | ⟨y2, ys⟩⟩
      · cases hc
      · simp only [Bool.and_eq_true] at hc
        obtain ⟨hx, hg, hs, ha⟩ := hc
        obtain rfl : x = "range" := beq_iff_eq.mp hx
        exact ⟨snd_r1 g hg hs (snd_B g ha (sE a g ha).1), fsi rfl⟩
      · cases hc
  | .r2 a b, fz, ct, X, tg, e, g, hc => by
    unfold chkS at hc
    cases hv : vCall e with
    | none => rw [hv] at hc; cases hc
    | some q =>
      obtain ⟨x, es⟩ := q
      rw [hv] at hc
      obtain ⟨p, q, rfl⟩ := vCall_eq hv
      rcases es with _ | ⟨y, _ | ⟨y2, _ | ⟨y3, ys⟩⟩⟩
      · cases hc
      · cases hc
      · simp only [Bool.and_eq_true] at hc
        obtain ⟨hx, hg, hs, hs2, ha, hb⟩ := hc
        obtain rfl : x = "range" := beq_iff_eq.mp hx
        exact ⟨snd_r2 g hg hs hs2 (snd_B g ha (sE a g ha).1) (snd_B g hb (sE b g hb).1), fsi rfl⟩
      · cases hc
  | .r3 a b c, fz, ct, X, tg, e, g, hc => by
    unfold chkS at hc
    cases hv : vCall e with
    | none => rw [hv] at hc; cases hc
    | some q =>
      obtain ⟨x, es⟩ := q
      rw [hv] at hc
      obtain ⟨p, q, rfl⟩ := vCall_eq hv
      rcases es with _ | ⟨y, _ | ⟨y2, _ | ⟨y3, _ | ⟨y4, ys⟩⟩⟩⟩
      · cases hc
      · cases hc
      · cases hc
      · simp only [Bool.and_eq_true] at hc
        obtain ⟨hx, hg, hs, hs2, hs3, ha, hb, hd⟩ := hc
        obtain rfl : x = "range" := beq_iff_eq.mp hx
        exact ⟨snd_r3 g hg hs hs2 hs3 (snd_B g ha (sE a g ha).1) (snd_B g hb (sE b g hb).1) (snd_B g hd (sE c g hd).1), fsi rfl⟩
      · cases hc
  | .zip a b, fz, ct, X, tg, e, g, hc => by
    unfold chkS at hc
    cases hv : vCall e with
    | none => rw [hv] at hc; cases hc
    | some q =>
      obtain ⟨x, es⟩ := q
      rw [hv] at hc
      obtain ⟨p, q, rfl⟩ := vCall_eq hv
      rcases es with _ | ⟨y, _ | ⟨y2, _ | ⟨y3, ys⟩⟩⟩
      · cases hc
      · cases hc
      · simp only [Bool.and_eq_true] at hc
        obtain ⟨ht, hx, hg, hs, hs2, ha, hb⟩ := hc
        obtain rfl : x = "zip" := beq_iff_eq.mp hx
        cases tg with
        | Tuple es kk tp => exact ⟨snd_zip g hg hs hs2 (snd_M (sE a g ha).1 (snd_B g ha (sE a g ha).1)) (snd_M (sE b g hb).1 (snd_B g hb (sE b g hb).1)), fsi rfl⟩
        | _ => cases ht
      · cases hc
theorem sR : ∀ (s : Src) {ct : Ct} {X : Cx} {e : Expr}, Gd P ct X k → chkR ct s e = true → ∃ te, PRg X e te ∧ ∀ σ H O0 H0 O ρ S', Sim X.K P.w P.iw O0 H0 O H σ ρ → NoOw (escS s) ρ → P.evS s ρ S' → ∀ Q : Int → Int → Hp → Prop, (∀ i j H', S' (rng i j) → okR i j = true → Ext P.w H H' → Q i j H') → te σ H Q
  | .val c, ct, X, e, g, hc => by unfold chkR at hc; cases hc
  | .r1 a, ct, X, e, g, hc => by
    unfold chkR at hc
    cases hv : vCall e with
    | none => rw [hv] at hc; cases hc
    | some q =>
      obtain ⟨x, es⟩ := q
      rw [hv] at hc
      obtain ⟨p, q, rfl⟩ := vCall_eq hv
      rcases es with _ | ⟨y, _ | ⟨y2, ys⟩⟩
      · cases hc
      · simp only [Bool.and_eq_true] at hc
        obtain ⟨hx, hg, hs, ha⟩ := hc
        obtain rfl : x = "range" := beq_iff_eq.mp hx
        exact ⟨_, prg_1 (g.gl hg) (g.blt _ (by decide)) (snd_B g ha (sE a g ha).1) (star_cons hs), fun σ H O0 H0 O ρ S' S es ev Q q => rg1_q (X := X) S es ev Q q⟩
      · cases hc
  | .r2 a b, ct, X, e, g, hc => by
    unfold chkR at hc
    cases hv : vCall e with
    | none => rw [hv] at hc; cases hc
    | some q =>
      obtain ⟨x, es⟩ := q
      rw [hv] at hc
      obtain ⟨p, q, rfl⟩ := vCall_eq hv
      rcases es with _ | ⟨y, _ | ⟨y2, _ | ⟨y3, ys⟩⟩⟩
      · cases hc
      · cases hc
      · simp only [Bool.and_eq_true] at hc
        obtain ⟨hx, hg, hs, hs2, ha, hb⟩ := hc
        obtain rfl : x = "range" := beq_iff_eq.mp hx
        exact ⟨_, prg_2 (g.gl hg) (g.blt _ (by decide)) (snd_B g ha (sE a g ha).1) (snd_B g hb (sE b g hb).1) (star_cons hs) (star_cons hs2) (plain1 hs2), fun σ H O0 H0 O ρ S' S es ev Q q => rg2_q (X := X) S es ev Q q⟩
      · cases hc
  | .r3 a b c, ct, X, e, g, hc => by unfold chkR at hc; cases hc
  | .zip a b, ct, X, e, g, hc => by unfold chkR at hc; cases hc
end
end
end PV

set_option maxHeartbeats 4000000
/-! PV: statements: the slots. -/
namespace PV
open PySem L2 RZ

def Kp (O : List Addr) (H : Hp) (O' : List Addr) (H' : Hp) : Prop := Le (hid O H) (hid O' H')
theorem Kp.refl (O : List Addr) (H : Hp) : Kp O H O H := Le.refl _
theorem Kp.trans {O O1 O2 : List Addr} {H H1 H2 : Hp} (a : Kp O H O1 H1) (b : Kp O1 H1 O2 H2) : Kp O H O2 H2 := Le.trans a b
section
variable {K : PySem.W.Frag} {w : Wp} {iw : Nat} {O0 O : List Addr} {H0 H H' : Hp} {σ σ' : L2.St} {ρ ρ' : Env}
theorem Sim.kp (S : Sim K w iw O0 H0 O H σ ρ) (e : Ext w H H') : Kp O H O H' := e.hid S.wo
/-- other names for the slots -/
theorem Sim.reix (S : Sim K w iw O0 H0 O H σ ρ) (f : Nat → Nat) (hl : σ'.length = ρ'.length) (hf : ∀ j s, ρ'[j]? = some s → s = .no ∨ (ρ[f j]? = some s ∧ σ[f j]? = σ'[j]?)) (hi : ∀ j l, j < ρ'.length → l < ρ'.length → f j = f l → j = l)
    (hw : ∀ t, w = some t → σ'[iw]? = some (some (.ref t.1)) ∧ ρ'[iw]? = some .no) : Sim K w iw O0 H0 O H σ' ρ' where
  len := hl
  slot := fun j s h => by
    rcases hf j s h with rfl | ⟨h1, h2⟩
    · trivial
    · rw [← h2]
      exact S.slot _ s h1
  inj := fun j l d1 d2 p h1 h2 h3 h4 => by
    rcases hf j _ h1 with z | ⟨a1, a2⟩
    · cases z
    rcases hf l _ h2 with z | ⟨b1, b2⟩
    · cases z
    have e := S.inj _ _ d1 d2 p a1 b1 (by rw [a2]; exact h3) (by rw [b2]; exact h4)
    exact hi j l (List.getElem?_eq_some_iff.mp h1).1 (List.getElem?_eq_some_iff.mp h2).1 e
  dom := S.dom
  dom0 := S.dom0
  sub := S.sub
  fresh := S.fresh
  ent := S.ent
  w0 := S.w0
  wO := S.wO
  wS := hw
  own := fun j d p h1 h2 => by
    rcases hf j _ h1 with z | ⟨a1, a2⟩
    · cases z
    exact S.own _ d p a1 (by rw [a2]; exact h2)
theorem msk_get {ρ0 ρ : Env} {j : Nat} {s : Slot} (h : (msk ρ0 ρ)[j]? = some s) : s = .no ∨ ρ[j]? = some s := by
  unfold msk at h
  rw [List.getElem?_mapIdx] at h
  cases e : ρ[j]? with
  | none => rw [e] at h; cases h
  | some t =>
    rw [e] at h
    have h := Option.some.inj h
    cases q : ρ0[j]? with
    | none => rw [q] at h; exact .inl h.symm
    | some u =>
      rw [q] at h
      cases u with
      | no => exact .inl h.symm
      | fx _ => exact .inr (congrArg some h)
      | sh _ => exact .inr (congrArg some h)
      | ow _ => exact .inr (congrArg some h)
theorem msk_no {ρ0 ρ : Env} {j : Nat} (h : ρ[j]? = some .no) : (msk ρ0 ρ)[j]? = some .no := by
  unfold msk
  rw [List.getElem?_mapIdx, h]
  cases q : ρ0[j]? with
  | none => simp [q]
  | some u => cases u <;> simp [q]
theorem Sim.msk (S : Sim K w iw O0 H0 O H σ ρ) (ρ0 : Env) : Sim K w iw O0 H0 O H σ (PV.msk ρ0 ρ) :=
  S.reix id (by rw [S.len]; simp [PV.msk]) (fun j s h => (msk_get h).imp_right fun q => ⟨q, rfl⟩) (fun _ _ _ _ e => e) fun t ht => ⟨(S.wS t ht).1, msk_no (S.wS t ht).2⟩

/-- the places that the names vs alone hold -/
def plOf (vs : List Nat) (σ : L2.St) (ρ : Env) : List Addr := vs.filterMap fun (i : Nat) => match ρ[i]?, σ[i]? with
  | some (.ow _), some (some (.ref p)) => some p
  | _, _ => none
theorem mem_pl {vs : List Nat} {p : Addr} : p ∈ plOf vs σ ρ ↔ ∃ i ∈ vs, ∃ d, ρ[i]? = some (.ow d) ∧ σ[i]? = some (some (.ref p)) := by
  unfold plOf
  rw [List.mem_filterMap]
  constructor
  · rintro ⟨i, hi, h⟩
    refine ⟨i, hi, ?_⟩
    split at h
    · rename_i d q e1 e2
      cases h
      exact ⟨d, e1, e2⟩
    · cases h
  · rintro ⟨i, hi, d, e1, e2⟩
    refine ⟨i, hi, ?_⟩
    rw [e1, e2]
theorem frz_get {vs : List Nat} {ρ : Env} {j : Nat} : (frz vs ρ)[j]? = (ρ[j]?).map fun s => if vs.contains j then s.frz else s := by
  unfold frz
  rw [List.getElem?_mapIdx]
theorem Sim.frz (S : Sim K w iw O0 H0 O H σ ρ) (vs : List Nat) : ∃ O', Sim K w iw O0 H0 O' H σ (PV.frz vs ρ) ∧ Kp O H O' H ∧ NoOw vs (PV.frz vs ρ) := by
  have sub : ∀ a, a ∈ O.filter (fun p => !(plOf vs σ ρ).contains p) → a ∈ O := fun a h => (List.mem_filter.mp h).1
  have le : Le (hid O H) (hid (O.filter fun p => !(plOf vs σ ρ).contains p) H) := hid_sub sub
  refine ⟨O.filter fun p => !(plOf vs σ ρ).contains p, ⟨by rw [S.len]; simp [PV.frz], fun j s h => ?_, fun j l d1 d2 p h1 h2 h3 h4 => ?_, fun p hp => S.dom p (sub p hp), S.dom0, fun p hp => ?_, fun p hp => S.fresh p (sub p hp), S.ent, S.w0, S.wO, fun t ht => ?_, fun j d p h1 h2 => ?_⟩, le, fun i hi => ?_⟩
  · rw [frz_get] at h
    cases e : ρ[j]? with
    | none => rw [e] at h; cases h
    | some t =>
      rw [e] at h
      have q := S.slot j t e
      by_cases hj : j ∈ vs
      · have h : t.frz = s := by simpa [hj] using h
        subst h
        cases t with
        | no => trivial
        | fx v => exact q
        | sh d =>
          obtain ⟨v, e1, r⟩ := q
          exact ⟨v, e1, r.mono le⟩
        | ow d =>
          obtain ⟨p, e1, hp, ds, us, e2, hH, r⟩ := q
          subst e2
          refine ⟨.ref p, e1, .lst (hid_in (fun hm => ?_) hH) (r.mono le)⟩
          have z := (List.mem_filter.mp hm).2
          have z2 : p ∈ plOf vs σ ρ := mem_pl.mpr ⟨j, hj, _, e, join_some e1⟩
          simp [z2] at z
      · have h : t = s := by simpa [hj] using h
        subst h
        cases t with
        | no => trivial
        | fx v => exact q
        | sh d =>
          obtain ⟨v, e1, r⟩ := q
          exact ⟨v, e1, r.mono le⟩
        | ow d =>
          obtain ⟨p, e1, hp, ds, us, e2, hH, r⟩ := q
          refine ⟨p, e1, List.mem_filter.mpr ⟨hp, ?_⟩, ds, us, e2, hH, r.mono le⟩
          have z2 : p ∉ plOf vs σ ρ := fun hm => by
            obtain ⟨i, hi, d', e3, e4⟩ := mem_pl.mp hm
            have := S.inj i j _ _ p e3 e e4 (join_some e1)
            subst this
            exact hj hi
          simp [z2]
  · have g : ∀ {j : Nat} {d : D}, (PV.frz vs ρ)[j]? = some (.ow d) → ρ[j]? = some (.ow d) := fun {j d} h => by
      rw [frz_get] at h
      cases e : ρ[j]? with
      | none => rw [e] at h; cases h
      | some t =>
        rw [e] at h
        by_cases hj : j ∈ vs
        · have h : t.frz = .ow d := by simpa [hj] using h
          cases t <;> cases h
        · have h : t = .ow d := by simpa [hj] using h
          rw [h]
    exact S.inj j l d1 d2 p (g h1) (g h2) h3 h4
  · refine List.mem_filter.mpr ⟨S.sub p hp, ?_⟩
    have z2 : p ∉ plOf vs σ ρ := fun hm => by
      obtain ⟨i, hi, d', e3, e4⟩ := mem_pl.mp hm
      exact S.dom0 p hp (S.own i d' p e3 e4)
    simp [z2]
  · refine ⟨(S.wS t ht).1, ?_⟩
    rw [frz_get, (S.wS t ht).2]
    by_cases hj : iw ∈ vs <;> simp [hj, Slot.frz]
  · rw [frz_get] at h1
    cases e : ρ[j]? with
    | none => rw [e] at h1; cases h1
    | some t =>
      rw [e] at h1
      by_cases hj : j ∈ vs
      · have h : t.frz = .ow d := by simpa [hj] using h1
        cases t <;> cases h
      · have h : t = .ow d := by simpa [hj] using h1
        subst h
        exact S.own j d p e h2
  · unfold getO
    rw [frz_get]
    cases e : ρ[i]? with
    | none => rfl
    | some t => cases t <;> simp [hi, Slot.frz, Slot.own?]
theorem noOw_app {a b : List Nat} (h : NoOw a ρ) (h2 : NoOw b ρ) : NoOw (a ++ b) ρ := fun i hi => (List.mem_append.mp hi).elim (h i) (h2 i)

/-- one more slot at the end: a value just reckoned -/
theorem Sim.push {c : E} {v : V} {d : D} (S : Sim K w iw O0 H0 O H σ ρ) (e : Ext w H H') (r : Res c K O H H' v d) (hiw : ∀ t, w = some t → iw < ρ.length) : ∃ O', Sim K w iw O0 H0 O' H' (σ ++ [some v]) (ρ ++ [slotOf c d]) ∧ Kp O H O' H' := by
  have get1 : ∀ {α : Type} {l : List α} {x y : α} {j : Nat}, (l ++ [x])[j]? = some y → (j < l.length ∧ l[j]? = some y) ∨ (j = l.length ∧ x = y) := fun {α l x y j} h => by
    by_cases hj : j < l.length
    · rw [List.getElem?_append_left hj] at h
      exact .inl ⟨hj, h⟩
    · rw [List.getElem?_append_right (by omega)] at h
      cases hk : j - l.length with
      | zero => rw [hk] at h; exact .inr ⟨by omega, by simpa using h⟩
      | succ n => rw [hk] at h; simp at h
  unfold slotOf
  by_cases hf : (c.fresh && isMut d) = true
  · rw [if_pos hf]
    rw [Bool.and_eq_true] at hf
    obtain ⟨p, us, ds, rfl, rfl, hp, hp', rs⟩ := r.2 hf.1 hf.2
    have S2 := S.grow hp e (by rw [hp']; simp)
    have h0 : H0 p = none := by
      rcases S2.fresh p (by simp) with z | z
      · exact absurd hp (S.dom p (S.sub p z))
      · exact z
    refine ⟨p :: O, ⟨by simp [S.len], fun j s h => ?_, fun j l d1 d2 q h1 h2 h3 h4 => ?_, S2.dom, S2.dom0, S2.sub, S2.fresh, S2.ent, S2.w0, S2.wO, fun t ht => ?_, fun j d q h1 h2 => ?_⟩, ?_⟩
    · rcases get1 h with ⟨hj, h⟩ | ⟨rfl, rfl⟩
      · have q := S2.slot j s h
        rwa [List.getElem?_append_left (by rw [S.len]; exact hj)]
      · refine ⟨p, ?_, by simp, ds, us, rfl, hp', rs⟩
        rw [← S.len, List.getElem?_append_right (by omega)]
        simp
    · have old : ∀ {j : Nat} {d : D} {q : Addr}, j < ρ.length → ρ[j]? = some (Slot.ow d) → (σ ++ [some (V.ref p)])[j]? = some (some (.ref q)) → q ≠ p := fun {j d q} hj a b z => by
        subst z
        rw [List.getElem?_append_left (by rw [S.len]; exact hj)] at b
        obtain ⟨q2, e1, hq, ds2, us2, e2, hH, _⟩ := S.slot j _ a
        rw [b] at e1
        cases e1
        rw [hp] at hH
        cases hH
      have new : ∀ {q : Addr}, (σ ++ [some (V.ref p)])[ρ.length]? = some (some (.ref q)) → q = p := fun {q} h => by
        rw [← S.len, List.getElem?_append_right (by omega)] at h
        simpa using h.symm
      rcases get1 h1 with ⟨hj, h1⟩ | ⟨rfl, _⟩
      · rcases get1 h2 with ⟨hl, h2⟩ | ⟨rfl, _⟩
        · rw [List.getElem?_append_left (by rw [S.len]; exact hj)] at h3
          rw [List.getElem?_append_left (by rw [S.len]; exact hl)] at h4
          exact S.inj j l d1 d2 q h1 h2 h3 h4
        · exact absurd (new h4) (old hj h1 h3)
      · rcases get1 h2 with ⟨hl, h2⟩ | ⟨rfl, _⟩
        · exact absurd (new h3) (old hl h2 h4)
        · rfl
    · have hl := hiw t ht
      obtain ⟨a, b⟩ := S.wS t ht
      rw [List.getElem?_append_left (by rw [S.len]; exact hl), List.getElem?_append_left hl]
      exact ⟨a, b⟩
    · rcases get1 h1 with ⟨hj, h1⟩ | ⟨rfl, _⟩
      · rw [List.getElem?_append_left (by rw [S.len]; exact hj)] at h2
        exact S.own j d q h1 h2
      · rw [← S.len, List.getElem?_append_right (by omega)] at h2
        have : p = q := by simpa using h2
        subst this
        exact h0
    · intro a o h
      have h1 := hid_out h
      have h2 := hid_le O H _ _ h
      have ne : a ≠ p := fun z => by subst z; rw [hp] at h2; cases h2
      exact hid_in (by simp [ne, h1]) (e.1 a o (fun z => h1 (S.wo a z)) h2)
  · rw [if_neg hf]
    have S2 := S.ext e
    refine ⟨O, ⟨by simp [S.len], fun j s h => ?_, fun j l d1 d2 q h1 h2 h3 h4 => ?_, S2.dom, S2.dom0, S2.sub, S2.fresh, S2.ent, S2.w0, S2.wO, fun t ht => ?_, fun j d q h1 h2 => ?_⟩, S.kp e⟩
    · rcases get1 h with ⟨hj, h⟩ | ⟨rfl, rfl⟩
      · have q := S2.slot j s h
        rwa [List.getElem?_append_left (by rw [S.len]; exact hj)]
      · refine ⟨v, ?_, r.1⟩
        rw [← S.len, List.getElem?_append_right (by omega)]
        simp
    · rcases get1 h1 with ⟨hj, h1⟩ | ⟨rfl, z⟩
      · rcases get1 h2 with ⟨hl, h2⟩ | ⟨rfl, z⟩
        · rw [List.getElem?_append_left (by rw [S.len]; exact hj)] at h3
          rw [List.getElem?_append_left (by rw [S.len]; exact hl)] at h4
          exact S.inj j l d1 d2 q h1 h2 h3 h4
        · cases z
      · cases z
    · have hl := hiw t ht
      obtain ⟨a, b⟩ := S.wS t ht
      rw [List.getElem?_append_left (by rw [S.len]; exact hl), List.getElem?_append_left hl]
      exact ⟨a, b⟩
    · rcases get1 h1 with ⟨hj, h1⟩ | ⟨rfl, z⟩
      · rw [List.getElem?_append_left (by rw [S.len]; exact hj)] at h2
        exact S.own j d q h1 h2
      · cases z
/-- the first slots alone -/
theorem Sim.take {us : L2.St} {ss : Env} (S : Sim K w iw O0 H0 O H (σ ++ us) (ρ ++ ss)) (hl : σ.length = ρ.length) (hiw : ∀ t, w = some t → iw < ρ.length) : Sim K w iw O0 H0 O H σ ρ :=
  S.reix id hl (fun j s h => .inr (by
    have hj : j < ρ.length := (List.getElem?_eq_some_iff.mp h).1
    refine ⟨?_, ?_⟩
    · show (ρ ++ ss)[j]? = some s
      rw [List.getElem?_append_left hj]
      exact h
    · show (σ ++ us)[j]? = σ[j]?
      rw [List.getElem?_append_left (by omega)])) (fun _ _ _ _ e => e) fun t ht => by
    have h := hiw t ht
    obtain ⟨a, b⟩ := S.wS t ht
    rw [List.getElem?_append_left (by omega)] at a b
    exact ⟨a, b⟩
/-- the slot behind the first ones goes to i -/
theorem Sim.move {us : L2.St} {ss : Env} {v : Option V} {s : Slot} {i : Nat} (S : Sim K w iw O0 H0 O H (σ ++ v :: us) (ρ ++ s :: ss)) (hl : σ.length = ρ.length) (hi : i < ρ.length) (hiw : i ≠ iw) (hw : ∀ t, w = some t → iw < ρ.length) :
    Sim K w iw O0 H0 O H (σ.set i v ++ us) (ρ.set i s ++ ss) := by
  have hlen := S.len
  simp only [List.length_append, List.length_cons] at hlen
  refine S.reix (fun j => if j = i then ρ.length else if j < ρ.length then j else j + 1) (by simp; omega) (fun j t h => .inr ?_) (fun j l hj hl2 e => ?_) fun t ht => ?_
  · by_cases e : j = i
    · subst e
      rw [List.getElem?_append_left (by simpa using hi), List.getElem?_set_self hi] at h
      simp only [if_true]
      refine ⟨?_, ?_⟩
      · rw [List.getElem?_append_right (by omega)]
        simpa using h
      · rw [← hl, List.getElem?_append_right (by omega), List.getElem?_append_left (by simp; omega), List.getElem?_set_self (by omega)]
        simp
    · simp only [if_neg e]
      by_cases hj : j < ρ.length
      · rw [if_pos hj]
        rw [List.getElem?_append_left (by simpa using hj), List.getElem?_set_ne (fun z => e z.symm)] at h
        refine ⟨?_, ?_⟩
        · rw [List.getElem?_append_left hj]
          exact h
        · rw [List.getElem?_append_left (by omega), List.getElem?_append_left (by simp; omega), List.getElem?_set_ne (fun z => e z.symm)]
      · rw [if_neg hj]
        rw [List.getElem?_append_right (by simp; omega)] at h
        simp only [List.length_set] at h
        refine ⟨?_, ?_⟩
        · rw [List.getElem?_append_right (by omega), show j + 1 - ρ.length = (j - ρ.length) + 1 by omega, List.getElem?_cons_succ]
          exact h
        · rw [List.getElem?_append_right (by omega), show j + 1 - σ.length = (j - σ.length) + 1 by omega, List.getElem?_cons_succ, List.getElem?_append_right (by simp; omega)]
          simp
  · have e : (if j = i then ρ.length else if j < ρ.length then j else j + 1) = if l = i then ρ.length else if l < ρ.length then l else l + 1 := e
    simp only [List.length_append, List.length_set] at hj hl2
    split at e <;> split at e <;> first | omega | (split at e <;> first | omega | (split at e <;> omega))
  · have h := hw t ht
    obtain ⟨a, b⟩ := S.wS t ht
    rw [List.getElem?_append_left (by omega)] at a b
    rw [List.getElem?_append_left (by simp; omega), List.getElem?_append_left (by simpa using h), List.getElem?_set_ne hiw, List.getElem?_set_ne hiw]
    exact ⟨a, b⟩
/-- a slot's own list is written -/
theorem Sim.setMut (S : Sim K w iw O0 H0 O H σ ρ) {i : Nat} {d : D} {p : Addr} {us : List V} {ds : List D} (h1 : ρ[i]? = some (.ow d)) (h2 : σ[i]? = some (some (.ref p))) (r : Rps K (hid O H) us ds) :
    Sim K w iw O0 H0 O (upd H p (.lst us)) σ (ρ.set i (.ow (.list ds))) ∧ Kp O H O (upd H p (.lst us)) := by
  obtain ⟨q, e1, hp, ds0, us0, e2, hH, _⟩ := S.slot i _ h1
  rw [h2] at e1
  cases e1
  have hh : hid O (upd H p (.lst us)) = hid O H := hid_upd hp
  have h0 := S.own i d p h1 h2
  have hi : i < ρ.length := (List.getElem?_eq_some_iff.mp h1).1
  have get : ∀ {j : Nat} {s : Slot}, (ρ.set i (.ow (.list ds)))[j]? = some s → (j = i ∧ s = .ow (.list ds)) ∨ (j ≠ i ∧ ρ[j]? = some s) := fun {j s} h => by
    by_cases e : i = j
    · subst e
      rw [List.getElem?_set_self hi] at h
      exact .inl ⟨rfl, (Option.some.inj h).symm⟩
    · rw [List.getElem?_set_ne e] at h
      exact .inr ⟨fun z => e z.symm, h⟩
  have ow : ∀ {j : Nat} {e : D}, (ρ.set i (.ow (.list ds)))[j]? = some (.ow e) → ∃ e' : D, ρ[j]? = some (.ow e') := fun {j e} h => by
    rcases get h with ⟨rfl, _⟩ | ⟨_, h⟩
    · exact ⟨_, h1⟩
    · exact ⟨_, h⟩
  refine ⟨⟨by simp [S.len], fun j s h => ?_, fun j l d1 d2 q a b c e => ?_, fun q hq => ?_, S.dom0, S.sub, S.fresh, ⟨fun a o n e => ?_, ?_⟩, S.w0, S.wO, fun t ht => ?_, fun j d q a b => ?_⟩, by unfold Kp; rw [hh]; exact Le.refl _⟩
  · rcases get h with ⟨rfl, rfl⟩ | ⟨hj, h⟩
    · exact ⟨p, by rw [h2]; rfl, hp, ds, us, rfl, by simp [upd], by rw [hh]; exact r⟩
    · have q := S.slot j s h
      cases s with
      | no => trivial
      | fx v => exact q
      | sh d =>
        obtain ⟨v, e1, r⟩ := q
        exact ⟨v, e1, by rw [hh]; exact r⟩
      | ow d2 =>
        obtain ⟨q, e1, hq, ds1, us1, e2, hH1, r1⟩ := q
        have ne : q ≠ p := fun z => by
          subst z
          exact hj (S.inj j i _ _ q h h1 (join_some e1) h2)
        exact ⟨q, e1, hq, ds1, us1, e2, by rw [upd_ne ne]; exact hH1, by rw [hh]; exact r1⟩
  · obtain ⟨_, a⟩ := ow a
    obtain ⟨_, b⟩ := ow b
    exact S.inj j l _ _ q a b c e
  · by_cases e : q = p
    · subst e
      simp [upd]
    · rw [upd_ne e]
      exact S.dom q hq
  · have ne : a ≠ p := fun z => by subst z; rw [h0] at e; cases e
    rw [upd_ne ne]
    exact S.ent.1 a o n e
  · have hwk : XD w p H (upd H p (.lst us)) := XD.upd (x := ⟨fun _ _ _ _ q => q, S.wok⟩) (wD S.w0 h0)
    exact hwk.2
  · obtain ⟨a, b⟩ := S.wS t ht
    refine ⟨a, ?_⟩
    rw [List.getElem?_set_ne]
    · exact b
    · intro z
      subst z
      rw [b] at h1
      cases h1
  · obtain ⟨_, a⟩ := ow a
    exact S.own j _ q a b
end
end PV

set_option maxHeartbeats 4000000
/-! PV: the checker of statements; assignments. -/
namespace PV
open PySem L2 RZ

/-! views -/
def vNameP : Expr → Option (Str × Pos)
  | .Name x p => some (x, p)
  | _ => none
def vTupP : Expr → Option (List Expr × Nat × Pos)
  | .Tuple es k p => some (es, k, p)
  | _ => none
def vAsg : Stmt → Option (Expr × Expr × Pos)
  | .Assign [t] v p => some (t, v, p)
  | _ => none
def vAug : Stmt → Option (Expr × Operator × Expr)
  | .AugAssign t o v _ => some (t, o, v)
  | _ => none
def vExp : Stmt → Option Expr
  | .Expr e _ => some e
  | _ => none
def vIfS : Stmt → Option (Expr × List Stmt × List Stmt)
  | .If t a b _ => some (t, a, b)
  | _ => none
def vWhl : Stmt → Option (Expr × List Stmt)
  | .While t a [] _ => some (t, a)
  | _ => none
def vFor : Stmt → Option (Expr × Expr × List Stmt)
  | .For t i a [] _ => some (t, i, a)
  | _ => none
def vRet : Stmt → Option Expr
  | .Return (some e) _ => some e
  | _ => none
theorem vNameP_eq {e : Expr} {x : Str} {p : Pos} (h : vNameP e = some (x, p)) : e = .Name x p := by
  cases e <;> simp [vNameP] at h
  obtain ⟨rfl, rfl⟩ := h
  rfl
theorem vTupP_eq {e : Expr} {es : List Expr} {k : Nat} {p : Pos} (h : vTupP e = some (es, k, p)) : e = .Tuple es k p := by
  cases e <;> simp [vTupP] at h
  obtain ⟨rfl, rfl, rfl⟩ := h
  rfl
theorem vAsg_eq {s : Stmt} {t v : Expr} {p : Pos} (h : vAsg s = some (t, v, p)) : s = .Assign [t] v p := by
  unfold vAsg at h
  split at h
  · cases h
    rfl
  · cases h
theorem vAug_eq {s : Stmt} {t v : Expr} {o : Operator} (h : vAug s = some (t, o, v)) : ∃ p, s = .AugAssign t o v p := by
  cases s <;> simp [vAug] at h
  obtain ⟨rfl, rfl, rfl⟩ := h
  exact ⟨_, rfl⟩
theorem vExp_eq {s : Stmt} {e : Expr} (h : vExp s = some e) : ∃ p, s = .Expr e p := by
  cases s <;> simp [vExp] at h
  subst h
  exact ⟨_, rfl⟩
theorem vIfS_eq {s : Stmt} {t : Expr} {a b : List Stmt} (h : vIfS s = some (t, a, b)) : ∃ p, s = .If t a b p := by
  cases s <;> simp [vIfS] at h
  obtain ⟨rfl, rfl, rfl⟩ := h
  exact ⟨_, rfl⟩
theorem vWhl_eq {s : Stmt} {t : Expr} {a : List Stmt} (h : vWhl s = some (t, a)) : ∃ p, s = .While t a [] p := by
  unfold vWhl at h
  split at h
  · cases h
    exact ⟨_, rfl⟩
  · cases h
theorem vFor_eq {s : Stmt} {t i : Expr} {a : List Stmt} (h : vFor s = some (t, i, a)) : ∃ p, s = .For t i a [] p := by
  unfold vFor at h
  split at h
  · cases h
    exact ⟨_, rfl⟩
  · cases h
theorem vRet_eq {s : Stmt} {e : Expr} (h : vRet s = some e) : ∃ p, s = .Return (some e) p := by
  unfold vRet at h
  split at h
  · cases h
    exact ⟨_, rfl⟩
  · cases h

/-! the compiler's ways to store -/
def swF (sc : Scope) (x : Str) (p : Pos) (s : Scope) (vp : Pos) : Bool := sc.names.lookup x == some .local && p.line == vp.line && !(s.names.any fun (n, k) => n == x && (k == .local || k == .cell))
def swB (sc : Scope) (x : Str) (p : Pos) : Expr → Bool
  | .ListComp a b s q => swF sc x p s (Expr.ListComp a b s q).pos
  | .SetComp a b s q => swF sc x p s (Expr.SetComp a b s q).pos
  | .DictComp a b c s q => swF sc x p s (Expr.DictComp a b c s q).pos
  | _ => false
theorem sw_eq {env : PySem.Env} {sc : Scope} (hs : env.scope = sc) (hk : sc.kind = .function) {v : Expr} {x : Str} {p : Pos} {l : Nat} : swapsWith v (some (.Name x p)) l env = pure (swB sc x p v) := by
  have hb : env.blockKind = .function := by
    unfold Env.blockKind
    rw [hs, hk]
    rfl
  have e1 : (env.blockKind == ScopeKind.function) = true := by rw [hb]; rfl
  cases v <;> first
    | rfl
    | (unfold swapsWith swB swF
       show (pure (env.blockKind == .function && env.kindOf x == some .local && _ && _) : Sem Bool) = _
       rw [e1, Bool.true_and]
       unfold Env.kindOf
       rw [hs])
theorem sw_other {v t : Expr} {l : Nat} {env : PySem.Env} (h : vNameP t = none) : swapsWith v (some t) l env = pure false := by
  cases t <;> first
    | (simp [vNameP] at h; done)
    | (cases v <;> rfl)
def lnOf (ts : List Expr) : Nat := (ts.head?.map (·.pos.line)).getD 0
def nmsOf (sc : Scope) (ts : List Expr) : List Str := ts.filterMap fun
  | .Name id pos => if sc.names.lookup id == some .local && pos.line == lnOf ts then some id else none
  | _ => none
def isStar : Expr → Bool
  | .Starred .. => true
  | _ => false
/-- outer none: not told -/
def swpB (sc : Scope) (ts vs : List Expr) : Option (Option (List Str)) :=
  if !(ts.length == 2 || ts.length == 3) || vs.length != ts.length then some none
  else if vs.any isStar then some none
  else if (nmsOf sc ts).length != ts.length || (nmsOf sc ts).eraseDups.length != (nmsOf sc ts).length then some none
  else if vs.all (foldedForSure 8) then some none
  else if vs.all (constantsAlone 8) then none
  else some (some (nmsOf sc ts))
/-- a tuple unpacked from a tuple written out: no stores exchanged -/
def swpN (sc : Scope) (t v : Expr) : Bool := match vTupP t, vTupP v with
  | some (ts, _, _), some (vs, _, _) => (swpB sc ts vs).isSome && ((swpB sc ts vs).bind id).isNone
  | _, _ => false
theorem swp_eq {env : PySem.Env} {sc : Scope} (hs : env.scope = sc) (hk : sc.kind = .function) {ts vs : List Expr} {k k2 : Nat} {p p2 : Pos} {r : Option (List Str)} (h : swpB sc ts vs = some r) : swappedStores [.Tuple ts k p] (.Tuple vs k2 p2) env = pure r := by
  have hb : env.blockKind = .function := by
    unfold Env.blockKind
    rw [hs, hk]
    rfl
  have e1 : (env.blockKind != ScopeKind.function) = false := by rw [hb]; rfl
  have e2 : (ts.filterMap fun x => match x with
    | .Name id pos => if env.kindOf id == some .local && pos.line == lnOf ts then some id else none
    | _ => none) = nmsOf sc ts := by
    unfold nmsOf Env.kindOf
    rw [hs]
  have e3 : (vs.any fun x => match x with
    | .Starred .. => true
    | _ => false) = vs.any isStar := rfl
  unfold swpB at h
  have goal : swappedStores [.Tuple ts k p] (.Tuple vs k2 p2) env = (if !(ts.length == 2 || ts.length == 3) || vs.length != ts.length || env.blockKind != .function then pure none
    else if vs.any isStar then pure none
    else if (nmsOf sc ts).length != ts.length || (nmsOf sc ts).eraseDups.length != (nmsOf sc ts).length then pure none
    else if vs.all (foldedForSure 8) then pure none
    else if vs.all (constantsAlone 8) then (do unsupported "assign.tuple-of-constant-expressions:order-of-the-stores"; pure (some (nmsOf sc ts)))
    else pure (some (nmsOf sc ts))) := by
    rw [← e2]
    rfl
  rw [goal, e1, Bool.or_false]
  split at h
  · rename_i c
    cases h
    rw [if_pos c]
  · rename_i c
    rw [if_neg c]
    split at h
    · rename_i c
      cases h
      rw [if_pos c]
    · rename_i c
      rw [if_neg c]
      split at h
      · rename_i c
        cases h
        rw [if_pos c]
      · rename_i c
        rw [if_neg c]
        split at h
        · rename_i c
          cases h
          rw [if_pos c]
        · rename_i c
          rw [if_neg c]
          split at h
          · cases h
          · rename_i c
            rw [if_neg c]
            cases h
            rfl
def E.isComp : E → Bool
  | .comp .. => true
  | .comp2 .. => true
  | _ => false
def chkN (ct : Ct) (i : Nat) (x : Str) : Bool := ct.N[i]? == some x && (isLoc ct.own x && !(i == ct.iw))
def chkNs (ct : Ct) : List Nat → List Expr → Bool
  | [], [] => true
  | i :: is, t :: ts => (match vNameP t with
    | some (x, _) => chkN ct i x
    | none => false) && chkNs ct is ts
  | _, _ => false
def chkV (ct : Ct) (i : Nat) (o : Expr) : Bool := match vName o with
  | some x => ct.N[i]? == some x && (isVis ct.sc x && notDbg x)
  | none => false
def nodupB : List Nat → Bool
  | [] => true
  | i :: is => !is.contains i && nodupB is
/-- .. the pair or triple stored from the right -/
def parOk (ct : Ct) (is : List Nat) (ts : List Expr) (r : Option (List Str)) : Bool := match r with
  | none => true
  | some ns => (is.length == 2 || is.length == 3) && (ts.map vNameP).all (fun o => match o with
    | some (x, _) => ct.sc.names.lookup x == some .local
    | none => false) && ns == ts.filterMap fun t => (vNameP t).map (·.1)
def augOk : Op2 → Bool
  | .add => true
  | .sub => true
  | _ => false
mutual
def chkSt (ct : Ct) : S → Stmt → Bool
  | .pass, s => match s with
    | .Pass _ => true
    | .Expr (.Constant (.str _) _ _) _ => true
    | _ => false
  | .asg i e, s => match vAsg s with
    | some (t, v, p) => match vNameP t with
      | some (x, q) => chkN ct i x && (chkE ct e v && (!(swB ct.sc x q v) || e.isComp))
      | none => false
    | none => false
  | .asgp is es, s => match vAsg s with
    | some (t, v, p) => match vTupP t, vTupP v with
      | some (ts, _, _), some (vs, _, _) => nodupB is && (chkNs ct is ts && (decide (es.len ≤ 1000) && (chkEs ct es vs && (es.len == is.length && (match swpB ct.sc ts vs with
        | some r => parOk ct is ts r
        | none => false)))))
      | _, _ => false
    | none => false
  | .asgt p e, s => match vAsg s with
    | some (t, v, q) => isTupE t && ((!isTupE v || swpN ct.sc t v) && (chkP ct p t && chkE ct e v))
    | none => false
  | .aug i o e, s => match vAug s with
    | some (t, op, v) => match vNameP t with
      | some (x, q) => chkN ct i x && (augOk o && (decide (op = binOp o) && (isVis ct.sc x && chkE ct e v)))
      | none => false
    | none => false
  | .app i e, s => match vExp s with
    | some x => match vMeth x with
      | some (o, m, ap, [y], cp) => m == ("append" : Str) && (ap.endLine == cp.line && (chkV ct i o && (notStar y && chkE ct e y)))
      | _ => false
    | none => false
  | .ext i e, s => match vExp s with
    | some x => match vMeth x with
      | some (o, m, ap, [y], cp) => m == ("extend" : Str) && (ap.endLine == cp.line && (chkV ct i o && (notStar y && chkE ct e y)))
      | _ => false
    | none => false
  | .ins0 i e, s => match vExp s with
    | some x => match vMeth x with
      | some (o, m, ap, [z, y], cp) => m == ("insert" : Str) && (ap.endLine == cp.line && (chkV ct i o && (chkE ct (.int 0) z && (notStar z && (notStar y && chkE ct e y)))))
      | _ => false
    | none => false
  | .seti i k e, s => match vAsg s with
    | some (t, v, p) => match vSub t with
      | some (o, ix) => chkV ct i o && ((vSli ix).isNone && (chkE ct k ix && chkE ct e v))
      | none => false
    | none => false
  | .popt p i, s => match vAsg s with
    | some (t, v, q) => match vMeth v with
      | some (o, m, ap, [], cp) => m == ("pop" : Str) && (ap.endLine == cp.line && (chkV ct i o && ((isTupE t || (vNameP t).isSome) && chkP ct p t)))
      | _ => false
    | none => false
  | .ite t a b, s => match vIfS s with
    | some (c, xs, ys) => chkE ct t c && (chkSs ct a xs && chkSs ct b ys)
    | none => false
  | .whl t b, s => match vWhl s with
    | some (c, xs) => chkE ct t c && chkSs ct b xs
    | none => false
  | .for_ p sr b, s => match vFor s with
    | some (tg, it, xs) => chkS ct sr tg it && (chkP ct p tg && chkSs ct b xs)
    | none => false
  | .ret e, s => match vRet s with
    | some v => chkE ct e v
    | none => false
  | .brk, s => match s with
    | .Break _ => true
    | _ => false
  | .bad, _ => true
  | _, _ => false
def chkSs (ct : Ct) : Ss → List Stmt → Bool
  | .nil, [] => true
  | .cons s r, st :: sts => chkSt ct s st && chkSs ct r sts
  | _, _ => false
end

/-! ### what a statement promises -/
section
variable {P : Pm} {ct : Ct} {X : Cx} {k : Nat}
def EndOk (P : Pm) (K : PySem.W.Frag) (O0 : List Addr) (H0 : Hp) (O : List Addr) (H : Hp) (D : Ends) : Fl → Prop
  | .nx ρ' => ∀ O' σ' H', Sim K P.w P.iw O0 H0 O' H' σ' ρ' → Kp O H O' H' → D.nx σ' H'
  | .bk ρ' => ∀ O' σ' H', Sim K P.w P.iw O0 H0 O' H' σ' ρ' → Kp O H O' H' → D.bk σ' H'
  | .rt d => ∀ v H', Rp K (hid O0 H') v d → Ext P.w H0 H' → D.rt v H'
theorem EndOk.mono {K : PySem.W.Frag} {O0 : List Addr} {H0 : Hp} {O O1 : List Addr} {H H1 : Hp} {D : Ends} {f : Fl} (h : EndOk P K O0 H0 O H D f) (kp : Kp O H O1 H1) : EndOk P K O0 H0 O1 H1 D f := by
  cases f with
  | nx ρ' => exact fun O' σ' H' S q => h O' σ' H' S (kp.trans q)
  | bk ρ' => exact fun O' σ' H' S q => h O' σ' H' S (kp.trans q)
  | rt d => exact h
def tS (P : Pm) (K : PySem.W.Frag) (r : Env → W Fl) : TS := fun D σ H => ∃ O0 H0 O ρ R, Sim K P.w P.iw O0 H0 O H σ ρ ∧ r ρ R ∧ ∀ f, R f → EndOk P K O0 H0 O H D f
theorem ps_imp {st : Stmt} {t t' : TS} (h : PS X st t') (q : ∀ D σ H, t D σ H → t' D σ H) : PS X st t := ⟨fun pins s σ H D I z => h.run pins s σ H D I (q D σ H z)⟩
theorem ps_impL {st : Stmt} {t t' : TS} (h : PS X st t') (q : ∀ D σ H, σ.length = X.N.length → t D σ H → t' D σ H) : PS X st t := ⟨fun pins s σ H D I z => h.run pins s σ H D I (q D σ H I.len z)⟩
theorem pss_imp {st : List Stmt} {t t' : TS} (h : PSs X st t') (q : ∀ D σ H, t D σ H → t' D σ H) : PSs X st t := ⟨fun pins s σ H D I z => h.run pins s σ H D I (q D σ H z)⟩
abbrev Pm.ex (P : Pm) (c : S) (ρ : Env) : W Fl := PV.ex wM P.C P.F P.G c ρ
abbrev Pm.exs (P : Pm) (c : Ss) (ρ : Env) : W Fl := PV.exs wM P.C P.F P.G c ρ
theorem Sim.iwl {K : PySem.W.Frag} {w : Wp} {iw : Nat} {O0 O : List Addr} {H0 H : Hp} {σ : L2.St} {ρ : Env} (S : Sim K w iw O0 H0 O H σ ρ) : ∀ t, w = some t → iw < ρ.length := fun t ht => (List.getElem?_eq_some_iff.mp (S.wS t ht).2).1
theorem frz_len {vs : List Nat} {ρ : Env} : (frz vs ρ).length = ρ.length := by simp [frz]

/-! name = value -/
theorem tS_asg {i : Nat} {e : E} (hi : i ≠ P.iw) {D : Ends} {σ : L2.St} {H : Hp} (h : tS P X.K (P.ex (.asg i e)) D σ H) : tAsg (tE P X.K e) (gName i) D σ H := by
  obtain ⟨O0, H0, O, ρ, R, S, ev, q⟩ := h
  have ev : P.ev e (frz (esc false e) ρ) fun d => R (.nx ((frz (esc false e) ρ).set i (slotOf e d))) := by unfold Pm.ex PV.ex at ev; exact ev
  obtain ⟨O1, S1, k1, n1⟩ := S.frz (esc false e)
  refine ⟨O0, H0, O1, _, _, S1, n1, ev, fun d v H' hR e1 res => ?_⟩
  obtain ⟨O2, S2, k2⟩ := S1.push e1 res S1.iwl
  by_cases hil : i < (frz (esc false e) ρ).length
  · have S3 := Sim.move (us := []) (ss := []) S2 S1.len hil hi S1.iwl
    rw [List.append_nil, List.append_nil] at S3
    exact q _ hR O2 _ H' S3 (k1.trans k2)
  · have z1 : σ.set i (some v) = σ := List.set_eq_of_length_le (by rw [S1.len]; omega)
    have z2 : (frz (esc false e) ρ).set i (slotOf e d) = frz (esc false e) ρ := List.set_eq_of_length_le (by omega)
    rw [z2] at hR
    have S3 := Sim.take S2 S1.len S1.iwl
    have q := q _ hR O2 σ H' S3 (k1.trans k2)
    show D.nx (σ.set i (some v)) H'
    rw [z1]
    exact q
/-! several values -/
def slots : Es → List D → Env
  | .cons e es, d :: ds => slotOf e d :: slots es ds
  | _, _ => []
def tEt (P : Pm) (K : PySem.W.Frag) (c : Es) : TA := fun σ H Q => ∃ O0 H0 O ρ R us ss, Sim K P.w P.iw O0 H0 O H (σ ++ us) (ρ ++ ss) ∧ σ.length = ρ.length ∧ (∀ t, P.w = some t → P.iw < ρ.length) ∧ NoOw (escs c) ρ ∧ P.evs c ρ R ∧
  ∀ ds vs O' H', R ds → Sim K P.w P.iw O0 H0 O' H' (σ ++ (us ++ vs.map some)) (ρ ++ (ss ++ slots c ds)) → Kp O H O' H' → vs.length = c.len → ds.length = c.len → Q vs H'
theorem sEt (g : Gd P ct X k) : ∀ {cs : Es} {xs : List Expr}, chkEs ct cs xs = true → PA X xs (tEt P X.K cs)
  | .nil, [], _ => pa_nil.imp fun σ H Q q => by
    obtain ⟨O0, H0, O, ρ, R, us, ss, S, hl, hw, es, ev, q⟩ := q
    have ev : R [] := by unfold Pm.evs PV.evs at ev; exact ev
    exact q [] [] O H ev (by simpa [slots] using S) (Kp.refl _ _) rfl rfl
  | .nil, _ :: _, h => by unfold chkEs at h; cases h
  | .cons c cs, [], h => by unfold chkEs at h; cases h
  | .cons c cs, x :: xs, h => by
    unfold chkEs at h
    rw [Bool.and_eq_true, Bool.and_eq_true] at h
    obtain ⟨h1, h2, h3⟩ := h
    refine (pa_cons (sE c g h2).1 (sEt g h3) (star_cons h1)).imp fun σ H Q q => ?_
    obtain ⟨O0, H0, O, ρ, R, us, ss, S, hl, hw, es, ev, q⟩ := q
    have es : NoOw (esc false c ++ escs cs) ρ := by simpa [escs] using es
    have ev : P.ev c ρ fun d => P.evs cs ρ fun ds => R (d :: ds) := by unfold Pm.evs PV.evs at ev; exact ev
    refine ⟨O0, H0, O, ρ, _, S.take hl hw, noOw_l es, ev, fun d v H1 hd e1 res => ?_⟩
    obtain ⟨O1, S1, k1⟩ := S.push e1 res (fun t ht => by rw [List.length_append]; have := hw t ht; omega)
    rw [List.append_assoc, List.append_assoc] at S1
    refine ⟨O0, H0, O1, ρ, _, us ++ [some v], ss ++ [slotOf c d], S1, hl, hw, noOw_r es, hd, fun ds vs O' H' hR S2 k2 hv hd2 => ?_⟩
    refine q (d :: ds) (v :: vs) O' H' hR ?_ (k1.trans k2) (by simp [hv, Es.len]) (by simp [hd2, Es.len])
    simpa [slots, List.append_assoc] using S2
def setVs : List Nat → List V → L2.St → L2.St
  | i :: is, v :: vs, σ => setVs is vs (σ.set i (some v))
  | _, _, σ => σ
theorem setVs_sim {K : PySem.W.Frag} {w : Wp} {iw : Nat} {O0 O : List Addr} {H0 H : Hp} : ∀ {is : List Nat} {es : Es} {ds : List D} {vs : List V} {σ : L2.St} {ρ ρ' : Env}, Sim K w iw O0 H0 O H (σ ++ vs.map some) (ρ ++ slots es ds) → σ.length = ρ.length → (∀ t, w = some t → iw < ρ.length) → (∀ i ∈ is, i ≠ iw ∧ i < ρ.length) →
    vs.length = ds.length → setAll is es ds ρ = some ρ' → Sim K w iw O0 H0 O H (setVs is vs σ) ρ'
  | [], .nil, [], vs, σ, ρ, ρ', S, hl, hw, hi, hv, h => by
    unfold setAll at h
    cases h
    have : vs = [] := by simpa using hv
    subst this
    simpa [setVs, slots] using S
  | i :: is, .cons e es, d :: ds, [], σ, ρ, ρ', S, hl, hw, hi, hv, h => by cases hv
  | i :: is, .cons e es, d :: ds, v :: vs, σ, ρ, ρ', S, hl, hw, hi, hv, h => by
    unfold setAll at h
    obtain ⟨h1, h2⟩ := hi i (by simp)
    have S2 := Sim.move (v := some v) (s := slotOf e d) S hl h2 h1 hw
    exact setVs_sim (is := is) (es := es) (ds := ds) (vs := vs) (σ := σ.set i (some v)) (ρ := ρ.set i (slotOf e d)) S2 (by simp [hl]) (by simpa using hw) (fun j hj => by simpa using hi j (by simp [hj])) (by simpa using hv) h
  | [], .nil, _ :: _, _, _, _, _, _, _, _, _, _, h => by unfold setAll at h; cases h
  | [], .cons _ _, _, _, _, _, _, _, _, _, _, _, h => by unfold setAll at h; cases h
  | _ :: _, .nil, _, _, _, _, _, _, _, _, _, _, h => by unfold setAll at h; cases h
  | _ :: _, .cons _ _, [], _, _, _, _, _, _, _, _, _, h => by unfold setAll at h; cases h
/-- the values stored, the pair itself aside -/
def tPN (is : List Nat) (ta : TA) : TS := fun D σ H => ta σ H fun vs H1 => vs.length = is.length ∧ ∀ H2, (H2 = H1 ∨ ∃ p, H1 p = none ∧ H2 = upd H1 p (.tup vs)) → D.nx (setVs is vs σ) H2
theorem pgs_names (g : Gd P ct X k) : ∀ {is : List Nat} {ts : List Expr}, chkNs ct is ts = true → PGs X ts (fun vs σ H Q => vs.length = is.length ∧ Q (setVs is vs σ) H) ∧ (assignEach ts X.env).findIdx? (·.1) = none ∧ (assignEach ts X.env).length = is.length
  | [], [], _ => ⟨pgs_imp pgs_nil fun v σ H Q q => by
    obtain ⟨h1, h2⟩ := q
    have : v = [] := by simpa using h1
    subst this
    exact ⟨rfl, h2⟩, rfl, rfl⟩
  | [], _ :: _, h => by cases h
  | _ :: _, [], h => by cases h
  | i :: is, t :: ts, h => by
    unfold chkNs at h
    rw [Bool.and_eq_true] at h
    obtain ⟨h1, h2⟩ := h
    cases hv : vNameP t with
    | none => rw [hv] at h1; cases h1
    | some q =>
      obtain ⟨x, p⟩ := q
      rw [hv] at h1
      obtain rfl := vNameP_eq hv
      unfold chkN at h1
      simp only [Bool.and_eq_true, beq_iff_eq] at h1
      obtain ⟨k1, k2, k3⟩ := h1
      obtain ⟨l, hf⟩ := g.sto x k2
      obtain ⟨r1, r2, r3⟩ := pgs_names g h2
      refine ⟨pgs_imp (pgs_cons (pg_name (by rw [g.hN]; exact g.nd) (by rw [g.hN]; exact k1) l hf) r1 rfl) fun v σ H Q q => ?_, ?_, ?_⟩
      · obtain ⟨h1, h2⟩ := q
        cases v with
        | nil => cases h1
        | cons v vs => exact ⟨v, vs, rfl, by simpa using h1, h2⟩
      · rw [show assignEach (Expr.Name x p :: ts) X.env = (false, assign (.Name x p) X.env) :: assignEach ts X.env from rfl, List.findIdx?_cons, r2]
        rfl
      · rw [show assignEach (Expr.Name x p :: ts) X.env = (false, assign (.Name x p) X.env) :: assignEach ts X.env from rfl, List.length_cons, r3]
        rfl
theorem ps_tupN (g : Gd P ct X k) {is : List Nat} {cs : Es} {ts vs : List Expr} {kt k2 : Nat} {p p2 pos : Pos} (hn : chkNs ct is ts = true) (hw : swappedStores [.Tuple ts kt p] (.Tuple vs k2 p2) X.env = pure none) (ha : PA X vs (tEt P X.K cs)) (hl : cs.len ≤ 1000) :
    PS X (.Assign [.Tuple ts kt p] (.Tuple vs k2 p2) pos) (tPN is (tEt P X.K cs)) := by
  obtain ⟨r1, r2, r3⟩ := pgs_names g hn
  refine ps_imp (ps_asg (pe_tup ha) (pg_tup g.calm r1 rfl r2) rfl hw rfl) fun D σ H q => ?_
  obtain ⟨O0, H0, O, ρ, R, us, ss, S, hl2, hw, es, ev, q⟩ := q
  refine ⟨O0, H0, O, ρ, R, us, ss, S, hl2, hw, es, ev, fun ds vs O' H' hR S2 kp hv hd => ?_⟩
  obtain ⟨q1, q2⟩ := q ds vs O' H' hR S2 kp hv hd
  refine ⟨by rw [hv, sizeLine_eq]; omega, fun a ha => ⟨a, vs, rfl, SqT.of (by simp [upd]), by rw [q1, r3], q1, q2 _ (.inr ⟨a, ha, rfl⟩)⟩⟩
theorem nodup_of : ∀ {is : List Nat}, nodupB is = true → is.Nodup
  | [], _ => List.nodup_nil
  | i :: is, h => by
    unfold nodupB at h
    rw [Bool.and_eq_true] at h
    exact List.nodup_cons.mpr ⟨by simpa using h.1, nodup_of h.2⟩
/-- several names stored at once -/
theorem ps_names (g : Gd P ct X k) (hk : ct.sc.kind = .function) {is : List Nat} {cs : Es} {ts vs : List Expr} {kt k2 : Nat} {p p2 pos : Pos} {r : Option (List Str)} (hnd : nodupB is = true) (hn : chkNs ct is ts = true) (hl : cs.len ≤ 1000) (hc : chkEs ct cs vs = true) (hcl : cs.len = is.length)
    (hs : swpB ct.sc ts vs = some r) (hp : parOk ct is ts r = true) : PS X (.Assign [.Tuple ts kt p] (.Tuple vs k2 p2) pos) (tPN is (tEt P X.K cs)) := by
  have hw : swappedStores [.Tuple ts kt p] (.Tuple vs k2 p2) X.env = pure r := swp_eq g.hsc hk hs
  cases r with
  | none => exact ps_tupN g hn hw (sEt g hc) hl
  | some ns =>
    unfold parOk at hp
    simp only [Bool.and_eq_true] at hp
    obtain ⟨⟨hlen, hloc⟩, hns⟩ := hp
    have nd := nodup_of hnd
    have hvl := (chkEs_len (env := X.env) hc).1
    rcases is with _ | ⟨i, _ | ⟨j, _ | ⟨l, _ | ⟨m, is⟩⟩⟩⟩
    · simp at hlen
    · simp at hlen
    · rcases ts with _ | ⟨t1, _ | ⟨t2, _ | ⟨t3, ts⟩⟩⟩
      · cases hn
      · unfold chkNs at hn; simp [chkNs] at hn
      · rcases vs with _ | ⟨v1, _ | ⟨v2, _ | ⟨v3, vs⟩⟩⟩
        · simp [hcl] at hvl
        · simp [hcl] at hvl
        · unfold chkNs at hn
          unfold chkNs at hn
          rw [Bool.and_eq_true, Bool.and_eq_true] at hn
          obtain ⟨h1, h2, _⟩ := hn
          cases e1 : vNameP t1 with
          | none => rw [e1] at h1; cases h1
          | some q1 =>
            cases e2 : vNameP t2 with
            | none => rw [e2] at h2; cases h2
            | some q2 =>
              obtain ⟨x, px⟩ := q1
              obtain ⟨y, py⟩ := q2
              rw [e1] at h1
              rw [e2] at h2
              simp only [List.map_cons, List.map_nil, e1, e2, List.all_cons, List.all_nil, Bool.and_true, Bool.and_eq_true, beq_iff_eq] at hloc
              have hns2 : ns = [x, y] := by
                have := beq_iff_eq.mp hns
                rw [this]
                simp [e1, e2]
              obtain rfl := vNameP_eq e1
              obtain rfl := vNameP_eq e2
              subst hns2
              unfold chkN at h1 h2
              simp only [Bool.and_eq_true, beq_iff_eq] at h1 h2
              refine ps_imp (ps_par g.calm (by rw [g.hN]; exact g.nd) (by rw [g.hN]; exact h1.1) (by rw [g.hN]; exact h2.1) (by simpa using nd) (by rw [g.hsc]; exact hloc.1) (by rw [g.hsc]; exact hloc.2) (sEt g hc) hw rfl) fun D σ H q => ?_
              obtain ⟨O0, H0, O, ρ, R, us, ss, S, hl2, hw, es, ev, q⟩ := q
              refine ⟨O0, H0, O, ρ, R, us, ss, S, hl2, hw, es, ev, fun ds vs O' H' hR S2 kp hv hd => ?_⟩
              obtain ⟨q1, q2⟩ := q ds vs O' H' hR S2 kp hv hd
              rcases vs with _ | ⟨a, _ | ⟨b, _ | ⟨c, vs⟩⟩⟩
              · cases q1
              · cases q1
              · exact ⟨a, b, rfl, q2 H' (.inl rfl)⟩
              · cases q1
        · simp [hcl] at hvl
      · unfold chkNs at hn; simp [chkNs] at hn
    · rcases ts with _ | ⟨t1, _ | ⟨t2, _ | ⟨t3, _ | ⟨t4, ts⟩⟩⟩⟩
      · cases hn
      · unfold chkNs at hn; simp [chkNs] at hn
      · unfold chkNs at hn; simp [chkNs] at hn
      · rcases vs with _ | ⟨v1, _ | ⟨v2, _ | ⟨v3, _ | ⟨v4, vs⟩⟩⟩⟩
        · simp [hcl] at hvl
        · simp [hcl] at hvl
        · simp [hcl] at hvl
        · unfold chkNs at hn
          unfold chkNs at hn
          unfold chkNs at hn
          rw [Bool.and_eq_true, Bool.and_eq_true, Bool.and_eq_true] at hn
          obtain ⟨h1, h2, h3, _⟩ := hn
          cases e1 : vNameP t1 with
          | none => rw [e1] at h1; cases h1
          | some q1 =>
            cases e2 : vNameP t2 with
            | none => rw [e2] at h2; cases h2
            | some q2 =>
              cases e3 : vNameP t3 with
              | none => rw [e3] at h3; cases h3
              | some q3 =>
                obtain ⟨x, px⟩ := q1
                obtain ⟨y, py⟩ := q2
                obtain ⟨z, pz⟩ := q3
                rw [e1] at h1
                rw [e2] at h2
                rw [e3] at h3
                simp only [List.map_cons, List.map_nil, e1, e2, e3, List.all_cons, List.all_nil, Bool.and_true, Bool.and_eq_true, beq_iff_eq] at hloc
                have hns2 : ns = [x, y, z] := by
                  have := beq_iff_eq.mp hns
                  rw [this]
                  simp [e1, e2, e3]
                obtain rfl := vNameP_eq e1
                obtain rfl := vNameP_eq e2
                obtain rfl := vNameP_eq e3
                subst hns2
                unfold chkN at h1 h2 h3
                simp only [Bool.and_eq_true, beq_iff_eq] at h1 h2 h3
                simp only [List.nodup_cons, List.mem_cons, List.not_mem_nil, or_false, not_or] at nd
                refine ps_imp (ps_par3 g.calm (by rw [g.hN]; exact g.nd) (by rw [g.hN]; exact h1.1) (by rw [g.hN]; exact h2.1) (by rw [g.hN]; exact h3.1) nd.1.1 nd.1.2 nd.2.1 (by rw [g.hsc]; exact hloc.1) (by rw [g.hsc]; exact hloc.2.1) (by rw [g.hsc]; exact hloc.2.2) (sEt g hc) hw rfl) fun D σ H q => ?_
                obtain ⟨O0, H0, O, ρ, R, us, ss, S, hl2, hw, es, ev, q⟩ := q
                refine ⟨O0, H0, O, ρ, R, us, ss, S, hl2, hw, es, ev, fun ds vs O' H' hR S2 kp hv hd => ?_⟩
                obtain ⟨q1, q2⟩ := q ds vs O' H' hR S2 kp hv hd
                rcases vs with _ | ⟨a, _ | ⟨b, _ | ⟨c, _ | ⟨d, vs⟩⟩⟩⟩
                · cases q1
                · cases q1
                · cases q1
                · exact ⟨a, b, c, rfl, q2 H' (.inl rfl)⟩
                · cases q1
        · simp [hcl] at hvl
      · unfold chkNs at hn; simp [chkNs] at hn
    · simp at hlen
theorem setAll_len : ∀ {is : List Nat} {es : Es} {ds : List D} {ρ ρ' : Env}, setAll is es ds ρ = some ρ' → is.length = es.len
  | [], .nil, [], _, _, _ => rfl
  | i :: is, .cons e es, d :: ds, ρ, ρ', h => by
    unfold setAll at h
    simp [Es.len, setAll_len h]
  | [], .nil, _ :: _, _, _, h => by unfold setAll at h; cases h
  | [], .cons _ _, _, _, _, h => by unfold setAll at h; cases h
  | _ :: _, .nil, _, _, _, h => by unfold setAll at h; cases h
  | _ :: _, .cons _ _, [], _, _, h => by unfold setAll at h; cases h
theorem tS_asgp {is : List Nat} {es : Es} (hi : ∀ i ∈ is, i ≠ P.iw) {D : Ends} {σ : L2.St} {H : Hp} (hN : ∀ i ∈ is, i < σ.length) (h : tS P X.K (P.ex (.asgp is es)) D σ H) : tPN is (tEt P X.K es) D σ H := by
  obtain ⟨O0, H0, O, ρ, R, S, ev, q⟩ := h
  have ev : P.evs es (frz (escs es) ρ) fun ds => wM.bind (wM.lift (setAll is es ds (frz (escs es) ρ))) (fun ρ' => wM.pure (.nx ρ')) R := by unfold Pm.ex PV.ex at ev; exact ev
  obtain ⟨O1, S1, k1, n1⟩ := S.frz (escs es)
  refine ⟨O0, H0, O1, _, _, [], [], by simpa using S1, S1.len, S1.iwl, n1, ev, fun ds vs O' H' hR S2 k2 hv hd => ?_⟩
  obtain ⟨ρ', hset, hR⟩ := wbind hR
  rw [List.nil_append, List.nil_append] at S2
  refine ⟨by rw [hv, ← setAll_len hset], fun H2 h2 => ?_⟩
  have ex2 : Ext P.w H' H2 := by
    rcases h2 with rfl | ⟨p, hp, rfl⟩
    · exact Ext.refl S2.wok
    · exact Ext.new S2.wok hp
  have S3 := S2.ext ex2
  exact q _ hR O' _ H2 (setVs_sim S3 S1.len S1.iwl (fun i hm => ⟨hi i hm, by rw [← S1.len]; exact hN i hm⟩) (by rw [hv, hd]) hset) ((k1.trans k2).trans (S2.kp ex2))
end
end PV

set_option maxHeartbeats 4000000
/-! PV: every statement of the checked form. -/
namespace PV
open PySem L2 RZ

section
variable {P : Pm} {ct : Ct} {X : Cx} {k : Nat}
theorem own_at {K : PySem.W.Frag} {w : Wp} {iw : Nat} {O0 O : List Addr} {H0 H : Hp} {σ : L2.St} {ρ : Env} (S : Sim K w iw O0 H0 O H σ ρ) {i : Nat} {d : D} (h : getO ρ i = some d) : ∃ p ds vs, σ[i]? = some (some (.ref p)) ∧ p ∈ O ∧ d = .list ds ∧ H p = some (.lst vs) ∧ Rps K (hid O H) vs ds := by
  obtain ⟨p, e1, hp, ds, vs, e2, hH, r⟩ := S.slot i _ (getO_ow h)
  exact ⟨p, ds, vs, join_some e1, hp, e2, hH, r⟩
theorem pe_v (g : Gd P ct X k) {i : Nat} {o : Expr} (h : chkV ct i o = true) : ∃ x p, o = .Name x p ∧ PE X o (tVar i) := by
  unfold chkV at h
  cases hv : vName o with
  | none => rw [hv] at h; cases h
  | some x =>
    rw [hv] at h
    obtain ⟨p, rfl⟩ := vName_eq hv
    exact ⟨x, p, rfl, pe_nm g h⟩
/-- a list that stays a slot's own, from heap to heap -/
theorem own_ext {K : PySem.W.Frag} {w : Wp} {iw : Nat} {O0 O : List Addr} {H0 H H' : Hp} {σ : L2.St} {ρ : Env} (S : Sim K w iw O0 H0 O H σ ρ) (e : Ext w H H') {p : Addr} {vs : List V} (h : H p = some (.lst vs)) : H' p = some (.lst vs) :=
  e.1 p _ (fun z => by
    obtain ⟨kvs, q⟩ := is_dK S.wok z
    rw [h] at q
    cases q) h
theorem dApp_some {d x y : D} (h : dApp d x = some y) : ∃ xs, x = .list xs ∧ xs.length < LINE ∧ y = .list (xs ++ [d]) := by
  cases x <;> simp [dApp] at h
  exact ⟨_, rfl, h.1, h.2.symm⟩
theorem dIns_some {d x y : D} (h : dIns0 d x = some y) : ∃ xs, x = .list xs ∧ xs.length < LINE ∧ y = .list (d :: xs) := by
  cases x <;> simp [dIns0] at h
  exact ⟨_, rfl, h.1, h.2.symm⟩
theorem dExt_some {d x y : D} (h : dExt d x = some y) : ∃ xs ys, x = .list xs ∧ d = .list ys ∧ xs.length + ys.length ≤ LINE ∧ y = .list (xs ++ ys) := by
  cases x <;> simp [dExt] at h
  cases d <;> simp at h
  exact ⟨_, _, rfl, rfl, h.1, h.2.symm⟩
theorem dPop_some {x : D} {y : D × D} (h : dPop x = some y) : ∃ xs, x = .list xs ∧ xs[xs.length - 1]? = some y.1 ∧ y.2 = .list xs.dropLast := by
  cases x <;> simp only [dPop] at h <;> try (cases h; done)
  rename_i xs
  cases e : xs[xs.length - 1]? with
  | none => rw [e] at h; cases h
  | some z => rw [e] at h; cases h; exact ⟨_, rfl, e, rfl⟩
theorem dSet_some {j d x y : D} {xs : List D} (hx : x = .list xs) (h : dSet j d x = some y) : ∃ i n, j = .int i ∧ ixN xs.length i = some n ∧ y = .list (xs.set n d) := by
  subst hx
  cases j <;> simp only [dSet] at h <;> try (cases h; done)
  rename_i i
  cases e : ixN xs.length i with
  | none => rw [e] at h; cases h
  | some n => rw [e] at h; cases h; exact ⟨_, _, rfl, e, rfl⟩
/-! xs.m(..) -/
theorem q_app {i : Nat} {e : E} {D : Ends} {σ : L2.St} {H : Hp} (h : tS P X.K (P.ex (.app i e)) D σ H) : tDrop (tBM X.K "list" rAppend (tVar i) (tCons (tE P X.K e) tNil)) D σ H := by
  obtain ⟨O0, H0, O, ρ, R, S, ev, q⟩ := h
  obtain ⟨O1, S1, k1, n1⟩ := S.frz (esc false e)
  have ev : wM.bind (wM.lift (getO (frz (esc false e) ρ) i)) (fun x => wM.bind (PV.ev wM P.C P.F P.G e (frz (esc false e) ρ)) fun d => wM.bind (wM.lift (dApp d x)) fun y => wM.pure (.nx ((frz (esc false e) ρ).set i (.ow y)))) R := by unfold Pm.ex PV.ex at ev; exact ev
  obtain ⟨x, hx, ev⟩ := wbind ev
  obtain ⟨p, ds, vs, e1, hp, rfl, hH, r⟩ := own_at S1 hx
  refine ⟨.ref p, e1, .inl ⟨rfl, vs, SqL.of hH⟩, O0, H0, O1, _, _, S1, n1, ev, fun d v H' hd e2 res => ?_⟩
  obtain ⟨y, hy, hR⟩ := wbind hd
  obtain ⟨xs, e3, hl, rfl⟩ := dApp_some hy
  cases e3
  have S2 := S1.ext e2
  have hH' := own_ext S1 e2 hH
  have r' := r.mono (e2.hid S1.wo)
  obtain ⟨S3, k3⟩ := S2.setMut (getO_ow hx) e1 (r'.append (.cons res.1 .nil))
  exact ⟨p, vs, v, rfl, rfl, hH', by rw [r.length, ← line_eq]; exact hl, q _ hR O1 σ _ S3 ((k1.trans (S1.kp e2)).trans k3)⟩
theorem q_ins {i : Nat} {e : E} {D : Ends} {σ : L2.St} {H : Hp} (h : tS P X.K (P.ex (.ins0 i e)) D σ H) : tDrop (tBM X.K "list" (fun x vs H Q => ∃ (l : Addr) (xs : List V) (i : Int) (y : V), x = .ref l ∧ vs = [.int i, y] ∧ H l = some (.lst xs) ∧ xs.length < sizeLine ∧ 0 ≤ i ∧ i < 2 ^ 63 ∧
    Q .non (upd H l (.lst (xs.take i.toNat ++ [y] ++ xs.drop i.toNat)))) (tVar i) (tCons (tC (.int 0)) (tCons (tE P X.K e) tNil))) D σ H := by
  obtain ⟨O0, H0, O, ρ, R, S, ev, q⟩ := h
  obtain ⟨O1, S1, k1, n1⟩ := S.frz (esc false e)
  have ev : wM.bind (wM.lift (getO (frz (esc false e) ρ) i)) (fun x => wM.bind (PV.ev wM P.C P.F P.G e (frz (esc false e) ρ)) fun d => wM.bind (wM.lift (dIns0 d x)) fun y => wM.pure (.nx ((frz (esc false e) ρ).set i (.ow y)))) R := by unfold Pm.ex PV.ex at ev; exact ev
  obtain ⟨x, hx, ev⟩ := wbind ev
  obtain ⟨p, ds, vs, e1, hp, rfl, hH, r⟩ := own_at S1 hx
  refine ⟨.ref p, e1, .inl ⟨rfl, vs, SqL.of hH⟩, O0, H0, O1, _, _, S1, n1, ev, fun d v H' hd e2 res => ?_⟩
  obtain ⟨y, hy, hR⟩ := wbind hd
  obtain ⟨xs, e3, hl, rfl⟩ := dIns_some hy
  cases e3
  have S2 := S1.ext e2
  have hH' := own_ext S1 e2 hH
  have r' := r.mono (e2.hid S1.wo)
  obtain ⟨S3, k3⟩ := S2.setMut (getO_ow hx) e1 (.cons res.1 r')
  exact ⟨p, vs, 0, v, rfl, rfl, hH', by rw [r.length, ← line_eq]; exact hl, by omega, by omega, q _ hR O1 σ _ S3 ((k1.trans (S1.kp e2)).trans k3)⟩
theorem q_ext {i : Nat} {e : E} {D : Ends} {σ : L2.St} {H : Hp} (h : tS P X.K (P.ex (.ext i e)) D σ H) : tDrop (tBM X.K "list" rExtend (tVar i) (tCons (tE P X.K e) tNil)) D σ H := by
  obtain ⟨O0, H0, O, ρ, R, S, ev, q⟩ := h
  obtain ⟨O1, S1, k1, n1⟩ := S.frz (esc false e)
  have ev : wM.bind (wM.lift (getO (frz (esc false e) ρ) i)) (fun x => wM.bind (PV.ev wM P.C P.F P.G e (frz (esc false e) ρ)) fun d => wM.bind (wM.lift (dExt d x)) fun y => wM.pure (.nx ((frz (esc false e) ρ).set i (.ow y)))) R := by unfold Pm.ex PV.ex at ev; exact ev
  obtain ⟨x, hx, ev⟩ := wbind ev
  obtain ⟨p, ds, vs, e1, hp, rfl, hH, r⟩ := own_at S1 hx
  refine ⟨.ref p, e1, .inl ⟨rfl, vs, SqL.of hH⟩, O0, H0, O1, _, _, S1, n1, ev, fun d v H' hd e2 res => ?_⟩
  obtain ⟨y, hy, hR⟩ := wbind hd
  obtain ⟨xs, ys, e3, rfl, hl, rfl⟩ := dExt_some hy
  cases e3
  have S2 := S1.ext e2
  have hH' := own_ext S1 e2 hH
  have r' := r.mono (e2.hid S1.wo)
  cases res.1 with
  | @lst b zs _ hb rz =>
    obtain ⟨S3, k3⟩ := S2.setMut (getO_ow hx) e1 (r'.append rz)
    exact ⟨p, b, vs, zs, rfl, rfl, hH', hid_le _ _ _ _ hb, by rw [r.length, rz.length, ← line_eq]; exact hl, q _ hR O1 σ _ S3 ((k1.trans (S1.kp e2)).trans k3)⟩
theorem q_seti {i : Nat} {j e : E} {D : Ends} {σ : L2.St} {H : Hp} (h : tS P X.K (P.ex (.seti i j e)) D σ H) : tAsg (tE P X.K e) (gSub (tVar i) (tE P X.K j) rSetL) D σ H := by
  obtain ⟨O0, H0, O, ρ, R, S, ev, q⟩ := h
  obtain ⟨O1, S1, k1, n1⟩ := S.frz (esc false e ++ esc false j)
  have ev : wM.bind (wM.lift (getO (frz (esc false e ++ esc false j) ρ) i)) (fun x => wM.bind (PV.ev wM P.C P.F P.G e (frz (esc false e ++ esc false j) ρ)) fun d => wM.bind (PV.ev wM P.C P.F P.G j (frz (esc false e ++ esc false j) ρ)) fun z => wM.bind (wM.lift (dSet z d x)) fun y => wM.pure (.nx ((frz (esc false e ++ esc false j) ρ).set i (.ow y)))) R := by unfold Pm.ex PV.ex at ev; exact ev
  obtain ⟨x, hx, ev⟩ := wbind ev
  obtain ⟨p, ds, vs, e1, hp, rfl, hH, r⟩ := own_at S1 hx
  refine ⟨O0, H0, O1, _, _, S1, noOw_l n1, ev, fun d v H' hd e2 res => ⟨.ref p, e1, O0, H0, O1, _, _, S1.ext e2, noOw_r n1, hd, fun z v2 H2 hd e3 res2 => ?_⟩⟩
  obtain ⟨y, hy, hR⟩ := wbind hd
  obtain ⟨n, m, rfl, hn, rfl⟩ := dSet_some rfl hy
  have S2 := (S1.ext e2).ext e3
  have hH' := own_ext (S1.ext e2) e3 (own_ext S1 e2 hH)
  have r' := (r.mono (e2.hid S1.wo)).mono (e3.hid S1.wo)
  obtain ⟨S3, k3⟩ := S2.setMut (getO_ow hx) e1 (r'.set (res.1.mono (e3.hid S1.wo)) m)
  cases res2.1
  exact ⟨p, vs, n, m, rfl, rfl, hH', by rw [r.length]; exact hn, q _ hR O1 σ _ S3 ((k1.trans ((S1.kp e2).trans ((S1.ext e2).kp e3))).trans k3)⟩
theorem q_pop {i : Nat} {p : Pat} {D : Ends} {σ : L2.St} {H : Hp} (h : tS P X.K (P.ex (.popt p i)) D σ H) : tAsg (tBM0 X.K "list" rPop (tVar i)) (tG P X.K p) D σ H := by
  obtain ⟨O0, H0, O, ρ, R, S, ev, q⟩ := h
  have ev : wM.bind (wM.lift (getO ρ i)) (fun x => wM.bind (wM.lift (dPop x)) fun y => wM.bind (wM.lift (bindP p y.1 (ρ.set i (.ow y.2)))) fun ρ' => wM.pure (.nx ρ')) R := by unfold Pm.ex PV.ex at ev; exact ev
  obtain ⟨x, hx, ev⟩ := wbind ev
  obtain ⟨y, hy, ev⟩ := wbind ev
  obtain ⟨ρ', hb, hR⟩ := wbind ev
  obtain ⟨l, ds, vs, e1, hp, rfl, hH, r⟩ := own_at S hx
  obtain ⟨xs, e3, hd, e4⟩ := dPop_some hy
  cases e3
  rw [e4] at hb
  obtain ⟨u, hu, ru⟩ := r.getD hd
  obtain ⟨S3, k3⟩ := S.setMut (getO_ow hx) e1 r.dropLast
  refine ⟨.ref l, e1, .inl ⟨rfl, vs, SqL.of hH⟩, l, vs, u, rfl, rfl, hH, by rw [r.length]; exact hu, O0, H0, O, _, y.1, ρ', S3, ru.mono k3, hb, fun σ' S' _ => q _ hR O σ' _ S' k3⟩
theorem q_aug {i : Nat} {o : Op2} {e : E} {D : Ends} {σ : L2.St} {H : Hp} {f : Int → Int → Int} (hf : ∀ a b, dBin o (.int a) (.int b) = some (.int (f a b))) (hi : i ≠ P.iw) (h : tS P X.K (P.ex (.aug i o e)) D σ H) : tAug i (tE P X.K e) (ipI f) D σ H := by
  obtain ⟨O0, H0, O, ρ, R, S, ev, q⟩ := h
  obtain ⟨O1, S1, k1, n1⟩ := S.frz (esc false e)
  have ev : wM.bind (wM.lift (getV ρ i)) (fun x => wM.bind (PV.ev wM P.C P.F P.G e (frz (esc false e) ρ)) fun y => wM.bind (wM.lift (int? x)) fun a => wM.bind (wM.lift (int? y)) fun b => wM.bind (wM.lift (dBin o (.int a) (.int b))) fun z => wM.pure (.nx ((frz (esc false e) ρ).set i (.sh z)))) R := by unfold Pm.ex PV.ex at ev; exact ev
  obtain ⟨x, hx, ev⟩ := wbind ev
  obtain ⟨v, e1, b, _⟩ := S.var hx
  refine ⟨v, e1, O0, H0, O1, _, _, S1, n1, ev, fun d u H' hd e2 res => ?_⟩
  obtain ⟨a, ha, hd⟩ := wbind hd
  obtain ⟨c, hc, hd⟩ := wbind hd
  obtain ⟨z, hz, hR⟩ := wbind hd
  rw [hf] at hz
  cases hz
  rw [int_some ha] at b
  have r := res.1
  rw [int_some hc] at r
  cases r
  exact ⟨a, c, b.int, rfl, q _ hR O1 _ H' ((S1.ext e2).setSh (.int _) hi) (k1.trans (S1.kp e2))⟩
theorem q_asgt {p : Pat} {e : E} {D : Ends} {σ : L2.St} {H : Hp} (h : tS P X.K (P.ex (.asgt p e)) D σ H) : tAsg (tE P X.K e) (tG P X.K p) D σ H := by
  obtain ⟨O0, H0, O, ρ, R, S, ev, q⟩ := h
  obtain ⟨O1, S1, k1, n1⟩ := S.frz (esc false e)
  have ev : P.ev e (frz (esc false e) ρ) fun d => wM.bind (wM.lift (bindP p d (frz (esc false e) ρ))) (fun ρ' => wM.pure (.nx ρ')) R := by unfold Pm.ex PV.ex at ev; exact ev
  refine ⟨O0, H0, O1, _, _, S1, n1, ev, fun d v H' hd e2 res => ?_⟩
  obtain ⟨ρ', hb, hR⟩ := wbind hd
  exact ⟨O0, H0, O1, _, d, ρ', S1.ext e2, res.1, hb, fun σ' S' _ => q _ hR O1 σ' H' S' (k1.trans (S1.kp e2))⟩
theorem q_ret {e : E} {D : Ends} {σ : L2.St} {H : Hp} (h : tS P X.K (P.ex (.ret e)) D σ H) : tRet (tE P X.K e) D σ H := by
  obtain ⟨O0, H0, O, ρ, R, S, ev, q⟩ := h
  obtain ⟨O1, S1, k1, n1⟩ := S.frz (esc false e)
  have ev : P.ev e (frz (esc false e) ρ) fun d => R (.rt d) := by unfold Pm.ex PV.ex at ev; exact ev
  exact ⟨O0, H0, O1, _, _, S1, n1, ev, fun d v H' hR e2 res => q _ hR v H' (res.1.mono (hid_sub fun a ha => S1.sub a ha)) (S1.ent.trans e2)⟩
theorem q_ite {t : E} {a b : Ss} {D : Ends} {σ : L2.St} {H : Hp} (h : tS P X.K (P.ex (.ite t a b)) D σ H) : tIfS (tT P X.K t) (tS P X.K (P.exs a)) (tS P X.K (P.exs b)) D σ H := by
  obtain ⟨O0, H0, O, ρ, R, S, ev, q⟩ := h
  obtain ⟨O1, S1, k1, n1⟩ := S.frz (esc true t)
  have ev : P.ev t (frz (esc true t) ρ) fun x => wM.bind (wM.lift (bool? x)) (fun t' => if t' = true then P.exs a (frz (esc true t) ρ) else P.exs b (frz (esc true t) ρ)) R := by unfold Pm.ex PV.ex at ev; exact ev
  refine ⟨O0, H0, O1, _, _, S1, n1, ev, fun d H' hd e2 => ?_⟩
  obtain ⟨t', ht, hd⟩ := wbind hd
  refine ⟨t', ht, ?_⟩
  have kp := k1.trans (S1.kp e2)
  cases t' with
  | true => exact ⟨O0, H0, O1, _, R, S1.ext e2, hd, fun f hf => (q f hf).mono kp⟩
  | false => exact ⟨O0, H0, O1, _, R, S1.ext e2, hd, fun f hf => (q f hf).mono kp⟩
theorem q_cons {s : S} {r : Ss} {D : Ends} {σ : L2.St} {H : Hp} (h : tS P X.K (P.exs (.cons s r)) D σ H) : tSeq (tS P X.K (P.ex s)) (tS P X.K (P.exs r)) D σ H := by
  obtain ⟨O0, H0, O, ρ, R, S, ev, q⟩ := h
  have ev : P.ex s ρ fun f => (match f with
    | .nx ρ => PV.exs wM P.C P.F P.G r ρ
    | .rt d => wM.pure (.rt d)
    | .bk ρ => wM.pure (.bk ρ)) R := by unfold Pm.exs PV.exs at ev; exact ev
  refine ⟨O0, H0, O, ρ, _, S, ev, fun f hf => ?_⟩
  cases f with
  | nx ρ' => exact fun O' σ' H' S' kp => ⟨O0, H0, O', ρ', R, S', hf, fun f hf => (q f hf).mono kp⟩
  | rt d => exact q _ hf
  | bk ρ' => exact q _ hf
theorem q_for {p : Pat} {s : Src} {b : Ss} {D : Ends} {σ : L2.St} {H : Hp} (h : tS P X.K (P.ex (.for_ p s b)) D σ H) : tFor (tI P X.K true s) (tG P X.K p) (tS P X.K (P.exs b)) D σ H := by
  obtain ⟨O0, H0, O, ρ, R, S, ev, q⟩ := h
  obtain ⟨O1, S1, k1, n1⟩ := S.frz (escF s)
  have ev : P.evS s (frz (escF s) ρ) fun xs => forL wM (fun d ρ => wM.bind (wM.lift (bindP p d ρ)) fun ρ => P.exs b ρ) (frz (escF s) ρ) xs (frz (escF s) ρ) R := by unfold Pm.ex PV.ex at ev; exact ev
  refine ⟨O0, H0, O1, _, _, S1, n1, ev, fun ds J H1 hd hl e1 wk => ?_⟩
  have S2 := S1.ext e1
  have kp1 := k1.trans (S1.kp e1)
  refine ⟨fun i m σ' H' => ∃ O' ρ', Sim X.K P.w P.iw O0 H0 O' H' σ' ρ' ∧ Kp O1 H1 O' H' ∧ i + m = ds.length ∧ forL wM (fun d ρ => wM.bind (wM.lift (bindP p d ρ)) fun ρ => P.exs b ρ) (frz (escF s) ρ) (ds.drop i) ρ' R, ⟨ds.length, O1, _, S2, Kp.refl _ _, by omega, hd⟩, fun i m σ' H' hW => ?_⟩
  obtain ⟨O', ρ', S', kp', hm, hf⟩ := hW
  obtain ⟨w1, w2⟩ := wk O' H' ⟨S'.dom, kp', fun z => by cases z⟩ i
  by_cases hi : i < ds.length
  · have hget : ds[i]? = some ds[i] := List.getElem?_eq_getElem hi
    obtain ⟨go, yl⟩ := w1 _ hget
    rw [List.drop_eq_getElem_cons hi] at hf
    have hf : wM.bind (wM.lift (bindP p ds[i] ρ')) (fun ρ => P.exs b ρ) (fun f => (match f with
      | .nx ρ'' => forL wM (fun d ρ => wM.bind (wM.lift (bindP p d ρ)) fun ρ => P.exs b ρ) (frz (escF s) ρ) (ds.drop (i + 1)) (msk (frz (escF s) ρ) ρ'')
      | .rt d => wM.pure (.rt d)
      | .bk ρ'' => wM.pure (.nx (msk (frz (escF s) ρ) ρ''))) R) := by unfold forL at hf; exact hf
    obtain ⟨ρ1, hb, hf⟩ := wbind hf
    refine .inr ⟨go, fun σ3 H3 => ∃ O3 ρ3, Sim X.K P.w P.iw O0 H0 O3 H3 σ3 ρ3 ∧ Kp O1 H1 O3 H3 ∧ forL wM (fun d ρ => wM.bind (wM.lift (bindP p d ρ)) fun ρ => P.exs b ρ) (frz (escF s) ρ) (ds.drop (i + 1)) ρ3 R, fun σ3 H3 hN => ?_, fun x H'' hy => ?_⟩
    · obtain ⟨O3, ρ3, S3, kp3, hf3⟩ := hN
      exact ⟨m - 1, by omega, O3, ρ3, S3, kp3, by omega, hf3⟩
    · obtain ⟨le, rp⟩ := yl x H'' hy
      have e2 : Ext P.w H' H'' := Ext.of_le S'.wok le
      refine ⟨O0, H0, O', ρ', ds[i], ρ1, S'.ext e2, rp, hb, fun σ2 S2' _ => ⟨O0, H0, O', ρ1, _, S2', hf, fun f hf2 => ?_⟩⟩
      have kp2 := kp'.trans (S'.kp e2)
      cases f with
      | nx ρ'' => exact fun O3 σ3 H3 S3 kp3 => ⟨O3, _, S3.msk _, kp2.trans kp3, hf2⟩
      | bk ρ'' => exact fun O3 σ3 H3 S3 kp3 => q _ hf2 O3 σ3 H3 (S3.msk _) (kp1.trans (kp2.trans kp3))
      | rt d => exact q _ hf2
  · refine .inl ⟨w2 (by omega), ?_⟩
    rw [List.drop_eq_nil_of_le (by omega)] at hf
    have hf : R (.nx ρ') := by unfold forL at hf; exact hf
    exact q _ hf O' σ' H' S' (kp1.trans kp')
theorem q_whl {t : E} {b : Ss} {D : Ends} {σ : L2.St} {H : Hp} (h : tS P X.K (P.ex (.whl t b)) D σ H) : tWhile (tT P X.K t) (tS P X.K (P.exs b)) D σ H := by
  obtain ⟨O0, H0, O, ρ, R, S, ev, q⟩ := h
  obtain ⟨O1, S1, k1, n1⟩ := S.frz (esc true t)
  have ev : wWhl (whlStep wM (esc true t) (fun ρ => wM.bind (PV.ev wM P.C P.F P.G t ρ) fun x => wM.lift (bool? x)) (P.exs b) (frz (esc true t) ρ)) (frz (esc true t) ρ) R := by unfold Pm.ex PV.ex at ev; exact ev
  obtain ⟨J, ⟨n0, hJ⟩, step⟩ := ev
  refine ⟨fun m σ' H' => ∃ O' ρ', Sim X.K P.w P.iw O0 H0 O' H' σ' ρ' ∧ Kp O1 H O' H' ∧ NoOw (esc true t) ρ' ∧ J m ρ', ⟨n0, O1, _, S1, Kp.refl _ _, n1, hJ⟩, fun m σ' H' hW => ?_⟩
  obtain ⟨O', ρ', S', kp', no', hj⟩ := hW
  have st := step m ρ' hj
  have st : P.ev t ρ' fun x => wM.bind (wM.lift (bool? x)) (fun t' => if t' = true then wM.bind (P.exs b ρ') fun f => (match f with
      | .nx ρ'' => (wM.pure (Sum.inl (frz (esc true t) (msk (frz (esc true t) ρ) ρ''))) : W (Env ⊕ Fl))
      | .rt d => wM.pure (Sum.inr (.rt d))
      | .bk ρ'' => wM.pure (Sum.inr (.nx (msk (frz (esc true t) ρ) ρ'')))) else wM.pure (Sum.inr (.nx ρ'))) (fun r => match r with
      | Sum.inl ρ' => ∃ k, k < m ∧ J k ρ'
      | Sum.inr f => R f) := st
  refine ⟨O0, H0, O', ρ', _, S', no', st, fun d H1 hd e2 => ?_⟩
  obtain ⟨t', ht, hd⟩ := wbind hd
  refine ⟨t', ht, ?_⟩
  have kp2 := kp'.trans (S'.kp e2)
  cases t' with
  | false => exact q _ hd O' σ' H1 (S'.ext e2) (k1.trans kp2)
  | true =>
    refine ⟨fun σ3 H3 => ∃ k, k < m ∧ ∃ O' ρ', Sim X.K P.w P.iw O0 H0 O' H3 σ3 ρ' ∧ Kp O1 H O' H3 ∧ NoOw (esc true t) ρ' ∧ J k ρ', fun σ3 H3 hN => hN, O0, H0, O', ρ', _, S'.ext e2, hd, fun f hf => ?_⟩
    cases f with
    | nx ρ'' =>
      intro O3 σ3 H3 S3 kp3
      obtain ⟨k, hk, hJ2⟩ := hf
      obtain ⟨O4, S4, k4, n4⟩ := (S3.msk (frz (esc true t) ρ)).frz (esc true t)
      exact ⟨k, hk, O4, _, S4, (kp2.trans kp3).trans k4, n4, hJ2⟩
    | bk ρ'' => exact fun O3 σ3 H3 S3 kp3 => q _ hf O3 σ3 H3 (S3.msk _) (k1.trans (kp2.trans kp3))
    | rt d => exact q _ hf
end
end PV

set_option maxHeartbeats 4000000
/-! PV: every statement; defs. -/
namespace PV
open PySem L2 RZ

section
variable {P : Pm} {ct : Ct} {X : Cx} {k : Nat}
theorem hfew_ok {cpos : Pos} {e : Expr} {es : List Expr} {env : PySem.Env} (h1 : notStar e = true) (h2 : starEach es env = es.map fun x => (false, eval x env)) (hl : es.length < 20) : ((backTo cpos (starEach (e :: es) env)).all (fun x => !x.1) && (backToKw cpos (keywordEach [] env)).all (fun x => x.1.isSome)
      && decide ((e :: es).length + ([] : List Keyword).length + (if ([] : List Keyword).isEmpty then 0 else 1) < 30)) = true := by
  rw [star_cons h1, h2]
  have : decide ((e :: es).length + ([] : List Keyword).length + (if ([] : List Keyword).isEmpty then 0 else 1) < 30) = true := by
    refine decide_eq_true ?_
    show es.length + 1 + 0 + 0 < 30
    omega
  rw [this]
  simp [backTo, keywordEach, backToKw]
theorem sub_assign {o i : Expr} {pos : Pos} {env : PySem.Env} (h : vSli i = none) : ∀ v, assign (.Subscript o i pos) env v = (do
      let ov ← holding [v] (eval o env)
      let iv ← holding [v, ov] (eval i env)
      standAt pos
      holding [v, ov, iv] (setItem ov iv v)
      release [v, ov, iv] []) := fun v => by
  cases i <;> first | rfl | (simp [vSli] at h)
theorem swp_sub {t v : Expr} {env : PySem.Env} (h : vTupP t = none) (h2 : vLst t = none) : swappedStores [t] v env = pure none := by
  cases t <;> first
    | (simp [vTupP] at h; done)
    | (simp [vLst] at h2; done)
    | (cases v <;> rfl)
theorem swp_tup {t v : Expr} {env : PySem.Env} (h : isTupE v = false) : swappedStores [t] v env = pure none := by
  cases v with
  | Tuple _ _ _ => cases h
  | _ => cases t <;> rfl
theorem sole {t v : Expr} {l : Nat} {env : PySem.Env} (h : vNameP t = none) : swapsWithSole [t] v l env = pure false := sw_other h
mutual
theorem sSt (g : Gd P ct X k) (hk : ct.sc.kind = .function) (how : ct.own = ct.sc) (hp : PassesOwn (model X.prog X.w) X.A X.env X.xe) : ∀ (s : S) {st : Stmt}, chkSt ct s st = true → PS X st (tS P X.K (P.ex s))
  | .pass, st, hc => by
    unfold chkSt at hc
    have q : ∀ {D : Ends} {σ : L2.St} {H : Hp}, tS P X.K (P.ex .pass) D σ H → tNext D σ H := fun {D σ H} h => by
      obtain ⟨O0, H0, O, ρ, R, S, ev, q⟩ := h
      have ev : R (.nx ρ) := by unfold Pm.ex PV.ex at ev; exact ev
      exact q _ ev O σ H S (Kp.refl _ _)
    split at hc
    · exact ps_imp ps_pass fun D σ H h => q h
    · exact ps_imp ps_doc fun D σ H h => q h
    · cases hc
  | .asg i e, st, hc => by
    unfold chkSt at hc
    cases hv : vAsg st with
    | none => rw [hv] at hc; cases hc
    | some q =>
      obtain ⟨t, v, p⟩ := q
      rw [hv] at hc
      obtain rfl := vAsg_eq hv
      have hc : (match vNameP t with
        | some (x, q) => chkN ct i x && (chkE ct e v && (!(swB ct.sc x q v) || e.isComp))
        | none => false) = true := hc
      cases hn : vNameP t with
      | none => rw [hn] at hc; cases hc
      | some q =>
        obtain ⟨x, py⟩ := q
        rw [hn] at hc
        obtain rfl := vNameP_eq hn
        have hc : (chkN ct i x && (chkE ct e v && (!(swB ct.sc x py v) || e.isComp))) = true := hc
        rw [Bool.and_eq_true, Bool.and_eq_true] at hc
        obtain ⟨h1, h2, h3⟩ := hc
        unfold chkN at h1
        simp only [Bool.and_eq_true, beq_iff_eq, Bool.not_eq_true', beq_eq_false_iff_ne] at h1
        obtain ⟨k1, k2, k3⟩ := h1
        obtain ⟨l, hf⟩ := g.sto x k2
        have hiw : i ≠ P.iw := by rw [← g.hiw]; exact k3
        have hsw := sw_eq (env := X.env) (l := p.line) g.hsc hk (v := v) (x := x) (p := py)
        have hN : X.N[i]? = some x := by rw [g.hN]; exact k1
        cases hb : swB ct.sc x py v with
        | false =>
          rw [hb] at hsw
          exact ps_imp (ps_set (by rw [g.hN]; exact g.nd) hN l (sE e g h2).1 hsw hf) fun D σ H h => tS_asg hiw h
        | true =>
          rw [hb] at hsw h3
          have hl : X.env.scope.names.lookup x = some .local := by
            rw [g.hsc]
            cases v <;> simp only [swB] at hb <;> first
              | cases hb
              | (unfold swF at hb
                 simp only [Bool.and_eq_true, beq_iff_eq] at hb
                 exact hb.1.1)
          cases e with
          | comp own pt sr t elt =>
            have h0 := h2
            unfold chkE at h0
            cases hv : vLc1 v with
            | none => rw [hv] at h0; cases h0
            | some q =>
              obtain ⟨el, tg, it, ifs, scope⟩ := q
              rw [hv] at h0
              obtain ⟨ps, rfl⟩ := vLc1_eq hv
              simp only [Bool.and_eq_true] at h0
              obtain ⟨hb2, hp2, hs, hcp, ht, he⟩ := h0
              obtain ⟨hi, hff⟩ := sS sr false g hs
              exact ps_imp (set_comp g hN hl hsw hb2 (fun i hi => by simpa using List.all_eq_true.mp hp2 i hi) hi (hff X.env) (fun X' g' => snd_pat g' hcp)
                (fun X' g' => by
                  rcases chkT_eq ht with ⟨e1, e2⟩ | ⟨x, e2, hx⟩
                  · rw [e1, e2]; exact yes_ok
                  · rw [e2]; exact pts_one (sE t g' hx).2)
                (fun X' g' => (sE elt g' he).1)) fun D σ H h => tS_asg hiw h
          | comp2 own own1 pt sr t p1 s1 t1 elt =>
            have h0 := h2
            unfold chkE at h0
            cases hv : vLc2 v with
            | none => rw [hv] at h0; cases h0
            | some q =>
              obtain ⟨el, ⟨tg, it, ifs⟩, ⟨tg1, it1, ifs1⟩, scope⟩ := q
              rw [hv] at h0
              obtain ⟨ps, rfl⟩ := vLc2_eq hv
              simp only [Bool.and_eq_true] at h0
              obtain ⟨hb2, h1o, hp2, hp1, hs, hcp, ht, hs1, hcp1, ht1, he⟩ := h0
              obtain ⟨hi, hff⟩ := sS sr false g hs
              exact ps_imp (set_comp2 g hN hl hsw hb2 (fun i hi => by simpa using List.all_eq_true.mp h1o i hi) (fun i hi => by simpa using List.all_eq_true.mp hp2 i hi) (fun i hi => by simpa using List.all_eq_true.mp hp1 i hi) hi (hff X.env) (chkS_fsi hs1)
                (fun X' g' => snd_pat g' hcp)
                (fun X' g' => by
                  rcases chkT_eq ht with ⟨e1, e2⟩ | ⟨x, e2, hx⟩
                  · rw [e1, e2]; exact yes_ok
                  · rw [e2]; exact pts_one (sE t g' hx).2)
                (fun X' g' => (sS s1 false g' hs1).1) (fun X' g' => snd_pat g' hcp1)
                (fun X' g' => by
                  rcases chkT_eq ht1 with ⟨e1, e2⟩ | ⟨x, e2, hx⟩
                  · rw [e1, e2]; exact yes_ok
                  · rw [e2]; exact pts_one (sE t1 g' hx).2)
                (fun X' g' => (sE elt g' he).1)) fun D σ H h => tS_asg hiw h
          | _ => cases h3
  | .asgp is es, st, hc => by
    unfold chkSt at hc
    cases hv : vAsg st with
    | none => rw [hv] at hc; cases hc
    | some q =>
      obtain ⟨t, v, p⟩ := q
      rw [hv] at hc
      obtain rfl := vAsg_eq hv
      cases ht : vTupP t with
      | none => simp [ht] at hc
      | some q =>
        cases hvv : vTupP v with
        | none => simp [ht, hvv] at hc
        | some q2 =>
          obtain ⟨ts, kt, pt⟩ := q
          obtain ⟨vs, kv, pv⟩ := q2
          obtain rfl := vTupP_eq ht
          obtain rfl := vTupP_eq hvv
          have hc : (nodupB is && (chkNs ct is ts && (decide (es.len ≤ 1000) && (chkEs ct es vs && (es.len == is.length && (match swpB ct.sc ts vs with
            | some r => parOk ct is ts r
            | none => false)))))) = true := hc
          simp only [Bool.and_eq_true, decide_eq_true_eq, beq_iff_eq] at hc
          obtain ⟨h1, h2, h3, h4, h5, h6⟩ := hc
          cases hs : swpB ct.sc ts vs with
          | none => rw [hs] at h6; cases h6
          | some r =>
            rw [hs] at h6
            have hix : ∀ {is : List Nat} {ts : List Expr}, chkNs ct is ts = true → ∀ i ∈ is, i ≠ P.iw ∧ i < X.N.length := fun {is} => by
              induction is with
              | nil => intro ts _ i hi; cases hi
              | cons j is ih =>
                intro ts h i hi
                cases ts with
                | nil => cases h
                | cons t ts =>
                  unfold chkNs at h
                  rw [Bool.and_eq_true] at h
                  rcases List.mem_cons.mp hi with rfl | hi
                  · have h := h.1
                    cases hv : vNameP t with
                    | none => rw [hv] at h; cases h
                    | some q =>
                      obtain ⟨x, px⟩ := q
                      rw [hv] at h
                      have h : chkN ct i x = true := h
                      unfold chkN at h
                      simp only [Bool.and_eq_true, beq_iff_eq, Bool.not_eq_true', beq_eq_false_iff_ne] at h
                      refine ⟨by rw [← g.hiw]; exact h.2.2, ?_⟩
                      rw [g.hN]
                      exact (List.getElem?_eq_some_iff.mp h.1).1
                  · exact ih h.2 i hi
            have hall := hix h2
            exact ps_impL (ps_names g hk h1 h2 h3 h4 h5 hs h6) fun D σ H hlen h => tS_asgp (fun i hi => (hall i hi).1) (fun i hi => by rw [hlen]; exact (hall i hi).2) h
  | .asgt pt e, st, hc => by
    unfold chkSt at hc
    cases hv : vAsg st with
    | none => rw [hv] at hc; cases hc
    | some q =>
      obtain ⟨t, v, p⟩ := q
      rw [hv] at hc
      obtain rfl := vAsg_eq hv
      simp only [Bool.and_eq_true, Bool.or_eq_true, Bool.not_eq_true'] at hc
      obtain ⟨h1, h2, h3, h4⟩ := hc
      cases t with
      | Tuple es kk tp =>
        rcases h2 with h2 | h2
        · exact ps_imp (ps_asg (sE e g h4).1 (snd_pat g h3) (sole rfl) (swp_tup h2) rfl) fun D σ H h => q_asgt h
        · have hw : swappedStores [.Tuple es kk tp] v X.env = pure none := by
            cases hvv : vTupP v with
            | none =>
              unfold swpN at h2
              rw [hvv] at h2
              cases h2
            | some q2 =>
              obtain ⟨vs, kv, pv⟩ := q2
              obtain rfl := vTupP_eq hvv
              have h2 : ((swpB ct.sc es vs).isSome && ((swpB ct.sc es vs).bind id).isNone) = true := h2
              cases hs : swpB ct.sc es vs with
              | none => rw [hs] at h2; cases h2
              | some r =>
                cases r with
                | none => exact swp_eq g.hsc hk hs
                | some ns => rw [hs] at h2; cases h2
          exact ps_imp (ps_asg (sE e g h4).1 (snd_pat g h3) (sole rfl) hw rfl) fun D σ H h => q_asgt h
      | _ => cases h1
  | .aug i o e, st, hc => by
    unfold chkSt at hc
    cases hv : vAug st with
    | none => rw [hv] at hc; cases hc
    | some q =>
      obtain ⟨t, op, v⟩ := q
      rw [hv] at hc
      obtain ⟨pos, rfl⟩ := vAug_eq hv
      cases hn : vNameP t with
      | none => simp [hn] at hc
      | some q =>
        obtain ⟨x, py⟩ := q
        obtain rfl := vNameP_eq hn
        have hc : (chkN ct i x && (augOk o && (decide (op = binOp o) && (isVis ct.sc x && chkE ct e v)))) = true := hc
        rw [Bool.and_eq_true, Bool.and_eq_true, Bool.and_eq_true, Bool.and_eq_true] at hc
        obtain ⟨h1, h2, h3, h4, h5⟩ := hc
        have h3 := of_decide_eq_true h3
        subst h3
        unfold chkN at h1
        simp only [Bool.and_eq_true, beq_iff_eq, Bool.not_eq_true', beq_eq_false_iff_ne] at h1
        obtain ⟨k1, k2, k3⟩ := h1
        obtain ⟨l, hf⟩ := g.sto x k2
        have hiw : i ≠ P.iw := by rw [← g.hiw]; exact k3
        have hN : X.N[i]? = some x := by rw [g.hN]; exact k1
        cases o <;> try (cases h2; done)
        · exact ps_imp (ps_aug (by rw [g.hN]; exact g.nd) hN l (sE e g h5).1 ip_add hf) fun D σ H h => q_aug (fun _ _ => rfl) hiw h
        · exact ps_imp (ps_aug (by rw [g.hN]; exact g.nd) hN l (sE e g h5).1 ip_sub hf) fun D σ H h => q_aug (fun _ _ => rfl) hiw h
  | .app i e, st, hc => by
    unfold chkSt at hc
    cases hv : vExp st with
    | none => rw [hv] at hc; cases hc
    | some x =>
      rw [hv] at hc
      obtain ⟨pos, rfl⟩ := vExp_eq hv
      have hc : (match vMeth x with
        | some (o, m, ap, [y], cp) => m == ("append" : Str) && (ap.endLine == cp.line && (chkV ct i o && (notStar y && chkE ct e y)))
        | _ => false) = true := hc
      split at hc
      · rename_i o m ap y cp hm
        obtain rfl := vMeth_eq hm
        have hc : (m == ("append" : Str) && (ap.endLine == cp.line && (chkV ct i o && (notStar y && chkE ct e y)))) = true := hc
        simp only [Bool.and_eq_true] at hc
        obtain ⟨h1, h2, h3, h4, h5⟩ := hc
        obtain rfl : m = "append" := beq_iff_eq.mp h1
        obtain ⟨z, pz, rfl, hz⟩ := pe_v g h3
        exact ps_imp (ps_expr (pe_bm PySem.F.plainAttrs_list PySem.F.slot_list_append PySem.F.type_list_append mt_append hz (pa_cons (sE e g h5).1 pa_nil (star_cons h4)) rfl (hfew_ok h4 rfl (by decide)) h2 (star_cons h4) rfl)) fun D σ H h => q_app h
      · cases hc
  | .ext i e, st, hc => by
    unfold chkSt at hc
    cases hv : vExp st with
    | none => rw [hv] at hc; cases hc
    | some x =>
      rw [hv] at hc
      obtain ⟨pos, rfl⟩ := vExp_eq hv
      have hc : (match vMeth x with
        | some (o, m, ap, [y], cp) => m == ("extend" : Str) && (ap.endLine == cp.line && (chkV ct i o && (notStar y && chkE ct e y)))
        | _ => false) = true := hc
      split at hc
      · rename_i o m ap y cp hm
        obtain rfl := vMeth_eq hm
        have hc : (m == ("extend" : Str) && (ap.endLine == cp.line && (chkV ct i o && (notStar y && chkE ct e y)))) = true := hc
        simp only [Bool.and_eq_true] at hc
        obtain ⟨h1, h2, h3, h4, h5⟩ := hc
        obtain rfl : m = "extend" := beq_iff_eq.mp h1
        obtain ⟨z, pz, rfl, hz⟩ := pe_v g h3
        exact ps_imp (ps_expr (pe_bm PySem.F.plainAttrs_list PySem.F.slot_list_extend PySem.F.type_list_extend mt_extend hz (pa_cons (sE e g h5).1 pa_nil (star_cons h4)) rfl (hfew_ok h4 rfl (by decide)) h2 (star_cons h4) rfl)) fun D σ H h => q_ext h
      · cases hc
  | .ins0 i e, st, hc => by
    unfold chkSt at hc
    cases hv : vExp st with
    | none => rw [hv] at hc; cases hc
    | some x =>
      rw [hv] at hc
      obtain ⟨pos, rfl⟩ := vExp_eq hv
      have hc : (match vMeth x with
        | some (o, m, ap, [z, y], cp) => m == ("insert" : Str) && (ap.endLine == cp.line && (chkV ct i o && (chkE ct (.int 0) z && (notStar z && (notStar y && chkE ct e y)))))
        | _ => false) = true := hc
      split at hc
      · rename_i o m ap z y cp hm
        obtain rfl := vMeth_eq hm
        have hc : (m == ("insert" : Str) && (ap.endLine == cp.line && (chkV ct i o && (chkE ct (.int 0) z && (notStar z && (notStar y && chkE ct e y)))))) = true := hc
        simp only [Bool.and_eq_true] at hc
        obtain ⟨h1, h2, h3, h6, h7, h4, h5⟩ := hc
        obtain rfl : m = "insert" := beq_iff_eq.mp h1
        obtain ⟨w, pz, rfl, hz⟩ := pe_v g h3
        have h0 := h6
        unfold chkE at h0
        cases hcst : vConst z with
        | none => rw [hcst] at h0; cases h0
        | some c =>
          rw [hcst] at h0
          obtain ⟨j, p, rfl⟩ := vConst_eq hcst
          cases c with
          | int n =>
            obtain rfl : 0 = n := beq_iff_eq.mp h0
            exact ps_imp (ps_expr (pe_bm PySem.F.plainAttrs_list PySem.F.slot_list_insert PySem.F.type_list_insert mt_insert hz (pa_cons pe_int (pa_cons (sE e g h5).1 pa_nil (star_cons h4)) rfl) rfl (hfew_ok rfl (star_cons h4) (by simp)) h2 rfl (plain1 h4))) fun D σ H h => q_ins h
          | _ => cases h0
      · cases hc
  | .seti i j e, st, hc => by
    unfold chkSt at hc
    cases hv : vAsg st with
    | none => rw [hv] at hc; cases hc
    | some q =>
      obtain ⟨t, v, p⟩ := q
      rw [hv] at hc
      obtain rfl := vAsg_eq hv
      have hc : (match vSub t with
        | some (o, ix) => chkV ct i o && ((vSli ix).isNone && (chkE ct j ix && chkE ct e v))
        | none => false) = true := hc
      cases hs : vSub t with
      | none => rw [hs] at hc; cases hc
      | some q =>
        obtain ⟨o, ix⟩ := q
        rw [hs] at hc
        obtain ⟨ps, rfl⟩ := vSub_eq hs
        have hc : (chkV ct i o && ((vSli ix).isNone && (chkE ct j ix && chkE ct e v))) = true := hc
        simp only [Bool.and_eq_true] at hc
        obtain ⟨h1, h2, h3, h4⟩ := hc
        obtain ⟨w, pz, rfl, hz⟩ := pe_v g h1
        exact ps_imp (ps_asg (sE e g h4).1 (pg_sub hz (sE j g h3).1 set_list (sub_assign (by simpa using h2))) (sole rfl) (swp_sub rfl rfl) rfl) fun D σ H h => q_seti h
  | .augi i j o e, st, hc => by unfold chkSt at hc; cases hc
  | .upd i e, st, hc => by unfold chkSt at hc; cases hc
  | .popt pt i, st, hc => by
    unfold chkSt at hc
    cases hv : vAsg st with
    | none => rw [hv] at hc; cases hc
    | some q =>
      obtain ⟨t, v, p⟩ := q
      rw [hv] at hc
      obtain rfl := vAsg_eq hv
      have hc : (match vMeth v with
        | some (o, m, ap, [], cp) => m == ("pop" : Str) && (ap.endLine == cp.line && (chkV ct i o && ((isTupE t || (vNameP t).isSome) && chkP ct pt t)))
        | _ => false) = true := hc
      split at hc
      · rename_i o m ap cp hm
        obtain rfl := vMeth_eq hm
        have hc : (m == ("pop" : Str) && (ap.endLine == cp.line && (chkV ct i o && ((isTupE t || (vNameP t).isSome) && chkP ct pt t)))) = true := hc
        simp only [Bool.and_eq_true] at hc
        obtain ⟨h1, h2, h3, h4, h5⟩ := hc
        obtain rfl : m = "pop" := beq_iff_eq.mp h1
        obtain ⟨z, pz, rfl, hz⟩ := pe_v g h3
        have a1 : swapsWithSole [t] (.Call (.Attribute (.Name z pz) "pop" ap) [] [] cp) p.line X.env = pure false := by
          cases t <;> rfl
        have a2 : (assignEach [t] X.env).map (·.2) = [assign t X.env] := by
          cases t <;> first | rfl | (simp [isTupE, vNameP] at h4)
        exact ps_imp (ps_asg (pe_bm0 PySem.F.plainAttrs_list PySem.F.slot_list_pop PySem.F.type_list_pop mt_pop hz rfl h2) (snd_pat g h5) a1 (swp_tup rfl) a2) fun D σ H h => q_pop h
      · cases hc
  | .ite t a b, st, hc => by
    unfold chkSt at hc
    cases hv : vIfS st with
    | none => rw [hv] at hc; cases hc
    | some q =>
      obtain ⟨c, xs, ys⟩ := q
      rw [hv] at hc
      obtain ⟨p, rfl⟩ := vIfS_eq hv
      simp only [Bool.and_eq_true] at hc
      exact ps_imp (ps_if (sE t g hc.1).2 (sSs g hk how hp a hc.2.1) (sSs g hk how hp b hc.2.2)) fun D σ H h => q_ite h
  | .whl t b, st, hc => by
    unfold chkSt at hc
    cases hv : vWhl st with
    | none => rw [hv] at hc; cases hc
    | some q =>
      obtain ⟨c, xs⟩ := q
      rw [hv] at hc
      obtain ⟨p, rfl⟩ := vWhl_eq hv
      simp only [Bool.and_eq_true] at hc
      exact ps_imp (ps_while hp (sE t g hc.1).2 (sSs g hk how hp b hc.2)) fun D σ H h => q_whl h
  | .for_ pt sr b, st, hc => by
    unfold chkSt at hc
    cases hv : vFor st with
    | none => rw [hv] at hc; cases hc
    | some q =>
      obtain ⟨tg, it, xs⟩ := q
      rw [hv] at hc
      obtain ⟨p, rfl⟩ := vFor_eq hv
      simp only [Bool.and_eq_true] at hc
      obtain ⟨hi, hf⟩ := sS sr true g hc.1
      exact ps_imp (ps_for hp g.calm hi (snd_pat g hc.2.1) (sSs g hk how hp b hc.2.2) (hf X.env)) fun D σ H h => q_for h
  | .ret e, st, hc => by
    unfold chkSt at hc
    cases hv : vRet st with
    | none => rw [hv] at hc; cases hc
    | some v =>
      rw [hv] at hc
      obtain ⟨p, rfl⟩ := vRet_eq hv
      exact ps_imp (ps_ret (sE e g hc).1) fun D σ H h => q_ret h
  | .brk, st, hc => by
    unfold chkSt at hc
    split at hc
    · refine ps_imp ps_break fun D σ H h => ?_
      obtain ⟨O0, H0, O, ρ, R, S, ev, q⟩ := h
      have ev : R (.bk ρ) := by unfold Pm.ex PV.ex at ev; exact ev
      exact q _ ev O σ H S (Kp.refl _ _)
    · cases hc
  | .bad, st, hc => by
    refine ps_imp ps_never fun D σ H h => ?_
    obtain ⟨O0, H0, O, ρ, R, S, ev, q⟩ := h
    unfold Pm.ex PV.ex at ev
    exact ev
theorem sSs (g : Gd P ct X k) (hk : ct.sc.kind = .function) (how : ct.own = ct.sc) (hp : PassesOwn (model X.prog X.w) X.A X.env X.xe) : ∀ (s : Ss) {st : List Stmt}, chkSs ct s st = true → PSs X st (tS P X.K (P.exs s))
  | .nil, [], hc => pss_imp pss_nil fun D σ H h => by
    obtain ⟨O0, H0, O, ρ, R, S, ev, q⟩ := h
    have ev : R (.nx ρ) := by unfold Pm.exs PV.exs at ev; exact ev
    exact q _ ev O σ H S (Kp.refl _ _)
  | .nil, _ :: _, hc => by unfold chkSs at hc; cases hc
  | .cons s r, [], hc => by unfold chkSs at hc; cases hc
  | .cons s r, st :: sts, hc => by
    unfold chkSs at hc
    rw [Bool.and_eq_true] at hc
    exact pss_imp (pss_cons (sSt g hk how hp s hc.1) (sSs g hk how hp r hc.2)) fun D σ H h => q_cons h
end
end
end PV

set_option maxHeartbeats 4000000
/-! PV: defs. -/
namespace PV
open PySem PyProof.Rows L2 RZ

section
variable {PG : Program} {W0 : World} {K : PySem.W.Frag} {mg : Str → Option Value} {base : Heap} {k : Nat}
/-- what the module gives: the built-ins' names free, the constants, the defs -/
structure Md (PG : Program) (W0 : World) (K : PySem.W.Frag) (mg : Str → Option Value) (base : Heap) (P : Pm) (fs : List (Nat × Str × Nat × Bool)) (gl : List (Nat × Str)) (k : Nat) : Prop where
  blt : ∀ x ∈ bltN, mg x = none
  fns : ∀ f x n b, (f, x, n, b) ∈ fs → ∃ a fd ps, mg x = some (.ref a) ∧ PySem.W.keepIn K (.ref a) = true ∧ Binds K fd ps [] ∧
    FnOk PG W0 K mg base CX0 k a fd ps (if b = true then spG n (P.G f) K else spF n (P.F f) K)
  hws : ∀ f x n, (f, x, n, true) ∈ fs → P.w.isSome = true
  gls : ∀ n x, (n, x) ∈ gl → ∃ v u d, mg x = some u ∧ RelV v u ∧ P.C n = some d ∧ ∀ H, Rp K H v d
theorem Md.gd {P : Pm} {fs : List (Nat × Str × Nat × Bool)} {gl : List (Nat × Str)} (m : Md PG W0 K mg base P fs gl k) {N : List Str} {ps : List Str} {sc : Scope} {qual : Str} {f : Addr} {cdv : Value} {A : Around} {outer : List PySem.Env} {s : Shared} {H : Hp} {E : XK} (S : FnScope N ps sc)
    (hr : Room k (A.deeper (envOfC qual sc s.heap.objs.size f cdv))) : Gd P ⟨N, sc, sc, P.iw, fs, gl⟩ (cxOf CX0 PG W0 K mg base N qual sc f cdv A outer s H E).nox k where
  hN := rfl
  nd := S.nd
  hsc := rfl
  hiw := rfl
  calm := rfl
  room := hr
  blt := m.blt
  sto := fun x hx => by
    have hx : isLoc sc x = true := hx
    unfold isLoc at hx
    rw [Bool.or_eq_true, beq_iff_eq, beq_iff_eq] at hx
    exact ⟨hx, .inl rfl⟩
  fns := m.fns
  hws := m.hws
  gls := m.gls
theorem start_len {N : List Str} {vs : List V} (h : vs.length ≤ N.length) : (L2.start N vs).length = N.length := by
  unfold L2.start
  simp
  omega
theorem start_get {N : List Str} {vs : List V} {i : Nat} {v : V} (h : vs[i]? = some v) : (L2.start N vs)[i]? = some (some v) := by
  have hi : i < vs.length := (List.getElem?_eq_some_iff.mp h).1
  unfold L2.start
  rw [List.getElem?_append_left (by simpa using hi), List.getElem?_map, h]
  rfl
theorem sim_start {w : Wp} {iw : Nat} {O : List Addr} {H : Hp} {N : List Str} {vs : List V} {ds : List D} (hl : vs.length ≤ N.length) (dm : Dm O H) (wk : WOk w H) (hw : ∀ a, w.is a → a ∈ O) (pre : Env) (hp : ∀ s ∈ pre, s = .no) (hd : Rps K (hid O H) (vs.drop pre.length) ds) (hpl : pre.length ≤ vs.length)
    (hwS : ∀ t, w = some t → (L2.start N vs)[iw]? = some (some (.ref t.1)) ∧ (pre ++ ds.map Slot.sh ++ List.replicate (N.length - (pre.length + ds.length)) Slot.no)[iw]? = some .no) :
    Sim K w iw O H O H (L2.start N vs) (pre ++ ds.map Slot.sh ++ List.replicate (N.length - (pre.length + ds.length)) Slot.no) := by
  have hdl : ds.length = vs.length - pre.length := by rw [← hd.length]; simp
  have noow : ∀ {i : Nat} {d : D}, ¬ (pre ++ ds.map Slot.sh ++ List.replicate (N.length - (pre.length + ds.length)) Slot.no)[i]? = some (.ow d) := fun {i d} h => by
    have hm := List.mem_of_getElem? h
    rcases List.mem_append.mp hm with h | h
    · rcases List.mem_append.mp h with h | h
      · cases hp _ h
      · obtain ⟨_, _, h⟩ := List.mem_map.mp h
        cases h
    · cases (List.mem_replicate.mp h).2
  refine ⟨?_, fun i s h => ?_, fun i j d d' p h => absurd h noow, dm, dm, fun _ h => h, fun _ h => .inl h, Ext.refl wk, wk, hw, hwS, fun i d p h => absurd h noow⟩
  · rw [start_len hl]
    simp
    omega
  · by_cases h1 : i < pre.length
    · rw [List.append_assoc, List.getElem?_append_left h1] at h
      have := hp s (List.mem_of_getElem? h)
      subst this
      trivial
    · by_cases h2 : i < pre.length + ds.length
      · rw [List.getElem?_append_left (by simpa using h2), List.getElem?_append_right (by omega), List.getElem?_map] at h
        cases e : ds[i - pre.length]? with
        | none => rw [e] at h; cases h
        | some d =>
          rw [e] at h
          cases h
          obtain ⟨v, hv, r⟩ := hd.getD e
          rw [List.getElem?_drop, show pre.length + (i - pre.length) = i by omega] at hv
          exact ⟨v, by rw [start_get hv]; rfl, r⟩
      · rw [List.getElem?_append_right (by simp; omega)] at h
        have := (List.mem_replicate.mp (List.mem_of_getElem? h)).2
        subst this
        trivial
/-- a pure def -/
theorem fn_pure {P : Pm} {fs : List (Nat × Str × Nat × Bool)} {gl : List (Nat × Str)} (m : Md PG W0 K mg base P fs gl k) (hw : P.w = none) {x qual : Str} {st : Stmt} {f : Addr} {fd : FuncData} {N ps : List Str} (F : Fun K x qual st f fd) (S : FnScope N ps (defScope st)) (hps : ps.length ≤ N.length) {b : Ss}
    (hc : chkSs ⟨N, defScope st, defScope st, P.iw, fs, gl⟩ b (defBody st) = true) {f' : List D → W D} (hf : ∀ ds R, f' ds R → run wM P.C P.F P.G N.length b ds R) : FnOk PG W0 K mg base CX0 (k + 1) f fd ps (spF ps.length f' K) := by
  refine F.ok S (fun vs H Q E h => h.1) (fun cdv A outer s H vs Q E hr h => ⟨_, sSs (m.gd S hr) S.kind rfl PassesOwn.never b hc, ?_⟩)
  obtain ⟨hl, O, ds, R, dm, rs, hR, q⟩ := h
  have hv := rs.length
  have hR := hf ds R hR
  have hR : P.exs b (ds.map Slot.sh ++ List.replicate (N.length - ds.length) Slot.no) fun f => (match f with
    | .nx _ => wM.pure PyData.none
    | .rt d => wM.pure d
    | .bk _ => wM.fail) R := by unfold run at hR; exact hR
  have Sm : Sim K P.w P.iw O H O H (L2.start N vs) ([] ++ ds.map Slot.sh ++ List.replicate (N.length - (0 + ds.length)) Slot.no) := by
    rw [hw]
    exact sim_start (w := none) (pre := []) (by omega) dm trivial (fun a h => by obtain ⟨t, ht, _⟩ := h; cases ht) (fun _ h => by cases h) rs (Nat.zero_le _) fun t ht => by cases ht
  rw [List.nil_append, Nat.zero_add] at Sm
  refine ⟨O, H, O, _, _, Sm, hR, fun g hg => ?_⟩
  have toLe : ∀ {H'}, Ext P.w H H' → Le H H' := fun {H'} e a o h => e.1 a o (fun z => by obtain ⟨t, ht, _⟩ := z; rw [hw] at ht; cases ht) h
  cases g with
  | nx ρ' => exact fun O' σ' H' S' _ => q _ .non H' hg (toLe S'.ent) .non
  | rt d => exact fun v H' r e => q d v H' hg (toLe e) r
  | bk ρ' => exact False.elim hg
/-- a def whose first parameter is w -/
theorem fn_w {C : Nat → Option D} {F' G' : Nat → List D → W D} {fs : List (Nat × Str × Nat × Bool)} {gl : List (Nat × Str)} (m : ∀ t, Md PG W0 K mg base ⟨C, F', G', some t, 0⟩ fs gl k) {x qual : Str} {st : Stmt} {f : Addr} {fd : FuncData} {N ps : List Str} (F : Fun K x qual st f fd) (S : FnScope N ps (defScope st)) (hps : ps.length ≤ N.length) {b : Ss}
    (hc : chkSs ⟨N, defScope st, defScope st, 0, fs, gl⟩ b (defBody st) = true) {f' : List D → W D} (hf : ∀ ds R, f' ds R → exs wM C F' G' b (.no :: (ds.map Slot.sh ++ List.replicate (N.length - (1 + ds.length)) Slot.no)) fun f => (match f with
    | .nx _ => wM.pure PyData.none
    | .rt d => wM.pure d
    | .bk _ => wM.fail) R) : FnOk PG W0 K mg base CX0 (k + 1) f fd ps (spG ps.length f' K) := by
  refine F.ok S (fun vs H Q E h => h.1) (fun cdv A outer s H vs Q E hr h => ?_)
  obtain ⟨hl, t, O, ds, R, vs', rfl, wk, hO, dm, rs, hR, q⟩ := h
  refine ⟨_, sSs ((m t).gd S hr) S.kind rfl PassesOwn.never b hc, ?_⟩
  have hv := rs.length
  have hR := hf ds R hR
  rw [List.length_cons] at hl
  have Sm := sim_start (K := K) (w := some t) (iw := 0) (O := O) (H := H) (N := N) (vs := .ref t.1 :: vs') (ds := ds) (pre := [.no]) (by simp; omega) dm wk (fun a h => by obtain ⟨t', ht, rfl⟩ := h; cases ht; exact hO) (fun _ h => by simpa using h) rs (by simp) fun t' ht => by
    cases ht
    exact ⟨start_get (by rfl), rfl⟩
  refine ⟨O, H, O, _, _, Sm, hR, fun g hg => ?_⟩
  cases g with
  | nx ρ' => exact fun O' σ' H' S' _ => q _ .non H' hg S'.ent .non
  | rt d => exact fun v H' r e => q d v H' hg e r
  | bk ρ' => exact False.elim hg
end
end PV

set_option maxHeartbeats 4000000
/-! PV: the law's own draws: _law_next. -/
namespace PV
open PySem PyProof.Rows L2 RZ

/-- what _law_next(w, n) gives -/
def gNext : List D → W D := fun ds R => ∃ n : Int, ds = [.int n] ∧ 0 < n ∧ ∀ j : Int, 0 ≤ j → j < n → R (.int j)
def nextB (p1 p2 p3 p4 p5 p6 p7 p8 p9 p10 p11 p12 p13 p14 p15 p16 p17 p18 p19 p20 p21 p22 p23 p24 p25 p26 p27 p28 p29 p30 p31 : Pos) : List Stmt :=
  [.AugAssign (.Subscript (.Name "w" p1) (.Constant (.str "at") 0 p2) p3) .Add (.Constant (.int 1) 0 p4) p5,
   .If (.Compare (.Subscript (.Name "w" p6) (.Constant (.str "at") 0 p7) p8) [.Gt] [.Call (.Name "len" p9) [.Subscript (.Name "w" p10) (.Constant (.str "draws") 0 p11) p12] [] p13] p14) [.Return (some (.Constant (.int 0) 0 p15)) p16] [] p17,
   .Return (some (.BinOp (.Call (.Name "int" p18) [.Subscript (.Subscript (.Name "w" p19) (.Constant (.str "draws") 0 p20) p21) (.BinOp (.Subscript (.Name "w" p22) (.Constant (.str "at") 0 p23) p24) .Sub (.Constant (.int 1) 0 p25) p26) p27] [] p28) .Mod (.Name "many" p29) p30)) p31]
def nextSc (sc : Scope) : Bool := isLoc sc "w" && isLoc sc "many" && (sc.names.lookup ("len" : Str) == some .globalImplicit) && (sc.names.lookup ("int" : Str) == some .globalImplicit)
section
variable {PG : Program} {W0 : World} {K : PySem.W.Frag} {mg : Str → Option Value} {base : Heap} {k : Nat}
theorem visB {sc : Scope} {x : Str} (h : isLoc sc x = true) : Vis sc x := by
  unfold isLoc at h
  rw [Bool.or_eq_true, beq_iff_eq, beq_iff_eq] at h
  rcases h with h | h
  · exact .inl h
  · exact .inr (.inl h)
theorem ok_next {st : Stmt} {f : Addr} {fd : FuncData} {p1 p2 p3 p4 p5 p6 p7 p8 p9 p10 p11 p12 p13 p14 p15 p16 p17 p18 p19 p20 p21 p22 p23 p24 p25 p26 p27 p28 p29 p30 p31 : Pos} (F : Fun K "_law_next" "_law_next" st f fd) (S : FnScope ["w", "many"] ["w", "many"] (defScope st))
    (hb : defBody st = nextB p1 p2 p3 p4 p5 p6 p7 p8 p9 p10 p11 p12 p13 p14 p15 p16 p17 p18 p19 p20 p21 p22 p23 p24 p25 p26 p27 p28 p29 p30 p31) (hs : nextSc (defScope st) = true) (ml : mg "len" = none) (mi : mg "int" = none) : FnOk PG W0 K mg base CX0 (k + 1) f fd ["w", "many"] (spG 2 gNext K) := by
  unfold nextSc at hs
  simp only [Bool.and_eq_true, beq_iff_eq] at hs
  obtain ⟨⟨⟨s1, s2⟩, s3⟩, s4⟩ := hs
  have s1 := visB s1
  have s2 := visB s2
  refine F.ok S (fun vs H Q E h => h.1) (fun cdv A outer s H vs Q E hr h => ?_)
  obtain ⟨hl, t, O, ds, R, vs', rfl, wk, hO, dm, rs, hR, q⟩ := h
  obtain ⟨n, rfl, hn, hR⟩ := hR
  obtain ⟨pw, pd, ns⟩ := t
  obtain ⟨j, j0, h1, h2⟩ := wk
  obtain ⟨v, rfl⟩ : ∃ v, vs' = [v] := by
    cases rs with | cons _ r => cases r; exact ⟨_, rfl⟩
  cases rs with
  | cons rn _ =>
    cases rn
    have hu := hu_of hr
    have nda : ¬ (Str.ofString "draws" = Str.ofString "at") := by decide
    have nw : pw ≠ pd := fun z => by rw [z, h2] at h1; cases h1
    generalize hX : (cxOf CX0 PG W0 K mg base ["w", "many"] "_law_next" (defScope st) f cdv A outer s H E).nox = X
    have hN : X.N = (["w", "many"] : List Str) := by rw [← hX]; rfl
    have hsc : X.env.scope = defScope st := by rw [← hX]; rfl
    have hm : X.mg = mg := by rw [← hX]; rfl
    have hK : X.K = K := by rw [← hX]; rfl
    have hA : X.A.units + 1 < cLine := by rw [← hX]; exact hu
    have gl : Gl X "len" := by show X.env.scope.names.lookup _ = _; rw [hsc]; exact s3
    have gi : Gl X "int" := by show X.env.scope.names.lookup _ = _; rw [hsc]; exact s4
    have pw' : ∀ p, PE X (.Name "w" p) (tVar 0) := fun p => pe_var (by rw [hN]; rfl) (by rw [hsc]; exact s1)
    have pm' : ∀ p, PE X (.Name "many" p) (tVar 1) := fun p => pe_var (by rw [hN]; rfl) (by rw [hsc]; exact s2)
    have nsl : ∀ c k p, NoSl (.Constant c k p) := fun _ _ _ _ _ => rfl
    rw [hb]
    refine ⟨_, pss_cons (ps_daug hA (pw' _) pe_str pe_int in_add (fun _ _ _ => rfl)) (pss_cons (ps_if (pt_cmpR op_gt (pe_dget hA (pw' _) pe_str (nsl _ _ _)) (pe_callB call_len_seq gl (by rw [hm]; exact ml) rfl (pa_cons (pe_dget hA (pw' _) pe_str (nsl _ _ _)) pa_nil)) (nomark _)) (pss_one (ps_ret pe_int)) pss_nil)
      (pss_one (ps_ret (pe_op op_mod (pe_callTy bi_int gi (by rw [hm]; exact mi) rfl (pa_cons (pe_ix ix_list (pe_dget hA (pw' _) pe_str (nsl _ _ _)) (pe_op op_sub (pe_dget hA (pw' _) pe_str (nsl _ _ _)) pe_int) (fun _ _ => rfl)) pa_nil)) (pm' _))))), ?_⟩
    generalize hH1 : upd H pw (.dK [(.inr "draws", .ref pd), (.inr "at", .int (j + 1))]) = H1
    have e1 : H1 pw = some (.dK [(.inr "draws", .ref pd), (.inr "at", .int (j + 1))]) := by rw [← hH1]; simp [upd]
    have e2 : H1 pd = some (.lst (ns.map .int)) := by rw [← hH1, upd_ne nw.symm]; exact h2
    have ex : Ext (some (pw, pd, ns)) H H1 := ⟨fun a o hw ha => by
      rw [← hH1, upd_ne (fun z => hw ⟨_, rfl, z⟩)]
      exact ha, j + 1, by omega, e1, e2⟩
    have dg1 : DGet H1 pw (.str "at") (some (.int (j + 1))) := .inl ⟨_, .inr "at", .inl e1, rfl, by simp [valV, nda]⟩
    have dg2 : DGet H1 pw (.str "draws") (some (.ref pd)) := .inl ⟨_, .inr "draws", .inl e1, rfl, by simp [valV, nda]⟩
    have fin : ∀ (i : Int) H', 0 ≤ i → i < n → Le H1 H' → Q (.int i) H' := fun i H' a b le => q (.int i) (.int i) H' (hR i a b) (ex.trans (Ext.of_le ex.2 le)) (.int i)
    refine ⟨.ref pw, rfl, pw, .int j, rfl, .inl ⟨_, .inr "at", .inl h1, rfl, by simp [valV, nda]⟩, j, 1, rfl, rfl, H1, .inl ⟨_, .inr "at", h1, rfl, by rw [sizeLine_eq]; simp, ?_⟩, ?_⟩
    · rw [← hH1]
      simp [putK, nda]
    refine ⟨.ref pw, rfl, pw, .int (j + 1), rfl, dg1, .ref pw, rfl, pw, .ref pd, rfl, dg2, pd, ns.map .int, rfl, .inl (SqL.of e2), ?_⟩
    refine ⟨_, _, rfl, rfl, decide (((ns.map V.int).length : Int) < j + 1), rfl, ?_⟩
    by_cases hc : ((ns.map V.int).length : Int) < j + 1
    · rw [decide_eq_true hc]
      exact fin 0 H1 (by omega) hn (Le.refl _)
    · rw [decide_eq_false hc]
      have hlen : j.toNat < ns.length := by
        rw [List.length_map] at hc
        omega
      have hat : atI (ns.map V.int) j = some (.int ns[j.toNat]) := by
        have e : (ns.map V.int)[j.toNat]? = some (.int ns[j.toNat]) := by rw [List.getElem?_map, List.getElem?_eq_getElem hlen]; rfl
        have z := atI_nat (xs := ns.map V.int) e
        rwa [show ((j.toNat : Nat) : Int) = j by omega] at z
      refine ⟨.ref pw, rfl, pw, .ref pd, rfl, dg2, .ref pw, rfl, pw, .int (j + 1), rfl, dg1, j + 1, 1, rfl, rfl, ?_⟩
      refine ⟨pd, ns.map .int, j, .int ns[j.toNat], rfl, congrArg V.int (show j + 1 - 1 = j by omega), SqL.of e2, hat, ?_⟩
      refine ⟨[], .int ns[j.toNat], .int ns[j.toNat], .int ns[j.toNat], rfl, (fun _ h => by cases h), .inl (.int _), rfl, fun v H' le rp _ => ?_⟩
      cases rp
      exact ⟨.int n, rfl, _, _, rfl, rfl, hn, fin _ H' (Int.emod_nonneg _ (by omega)) (Int.emod_lt_of_pos _ hn) le⟩
end
end PV

set_option maxHeartbeats 4000000
/-! PV: reckoning in Option. -/
namespace PV
open PySem

section
variable {C : Nat → Option D} {F G : Nat → List D → Option D} {ρ : Env}
@[simp] theorem o_lift {α : Type} (o : Option α) : optM.lift o = o := by cases o <;> rfl
@[simp] theorem o_bind {α β : Type} (o : Option α) (f : α → Option β) : optM.bind o f = o.bind f := rfl
@[simp] theorem o_pure {α : Type} (a : α) : optM.pure a = some a := rfl
@[simp] theorem o_fail {α : Type} : (optM.fail : Option α) = none := rfl
@[simp] theorem o_none : ev optM C F G .none ρ = some .none := by unfold ev; rfl
@[simp] theorem o_bl {b : Bool} : ev optM C F G (.bl b) ρ = some (.bool b) := by unfold ev; rfl
@[simp] theorem o_int {b : Int} : ev optM C F G (.int b) ρ = some (.int b) := by unfold ev; rfl
@[simp] theorem o_str {b : Str} : ev optM C F G (.str b) ρ = some (.str b) := by unfold ev; rfl
@[simp] theorem o_var {i : Nat} : ev optM C F G (.var i) ρ = getV ρ i := by unfold ev; simp
@[simp] theorem o_gl {i : Nat} : ev optM C F G (.gl i) ρ = C i := by unfold ev; simp
@[simp] theorem o_bin {o : Op2} {a b : E} : ev optM C F G (.bin o a b) ρ = (ev optM C F G a ρ).bind fun x => (ev optM C F G b ρ).bind fun y => dBin o x y := by conv => { lhs; unfold ev }; simp
@[simp] theorem o_neg {a : E} : ev optM C F G (.neg a) ρ = (ev optM C F G a ρ).bind fun x => (int? x).map fun i => .int (-i) := by conv => { lhs; unfold ev }; simp
@[simp] theorem o_not {a : E} : ev optM C F G (.not a) ρ = (ev optM C F G a ρ).bind fun x => (bool? x).map fun i => .bool (!i) := by conv => { lhs; unfold ev }; simp
@[simp] theorem o_and {a b : E} : ev optM C F G (.and a b) ρ = (ev optM C F G a ρ).bind fun x => (bool? x).bind fun t => if t = true then ev optM C F G b ρ else some (.bool false) := by conv => { lhs; unfold ev }; simp
@[simp] theorem o_or {a b : E} : ev optM C F G (.or a b) ρ = (ev optM C F G a ρ).bind fun x => (bool? x).bind fun t => if t = true then some (.bool true) else ev optM C F G b ρ := by conv => { lhs; unfold ev }; simp
@[simp] theorem o_cmp {c : Cm} {a b : E} : ev optM C F G (.cmp c a b) ρ = (ev optM C F G a ρ).bind fun x => (ev optM C F G b ρ).bind fun y => (dCmp c x y).map .bool := by conv => { lhs; unfold ev }; simp
@[simp] theorem o_chain {c c' : Cm} {a b d : E} : ev optM C F G (.chain c c' a b d) ρ = (ev optM C F G a ρ).bind fun x => (ev optM C F G b ρ).bind fun y => (dCmp c x y).bind fun t => if t = true then (ev optM C F G d ρ).bind fun z => (dCmp c' y z).map .bool else some (.bool false) := by conv => { lhs; unfold ev }; simp
@[simp] theorem o_chain3 {c c' c2 : Cm} {a b d g : E} : ev optM C F G (.chain3 c c' c2 a b d g) ρ = (ev optM C F G a ρ).bind fun x => (ev optM C F G b ρ).bind fun y => (dCmp c x y).bind fun t => if t = true then (ev optM C F G d ρ).bind fun z => (dCmp c' y z).bind fun t => if t = true then (ev optM C F G g ρ).bind fun u => (dCmp c2 z u).map .bool else some (.bool false) else some (.bool false) := by conv => { lhs; unfold ev }; simp
@[simp] theorem o_ife {t a b : E} : ev optM C F G (.ife t a b) ρ = (ev optM C F G t ρ).bind fun x => (bool? x).bind fun t => if t = true then ev optM C F G a ρ else ev optM C F G b ρ := by conv => { lhs; unfold ev }; simp
@[simp] theorem o_tup {es : Es} : ev optM C F G (.tup es) ρ = (evs optM C F G es ρ).map .tuple := by conv => { lhs; unfold ev }; simp [Option.map_eq_bind]; rfl
@[simp] theorem o_lst {es : Es} : ev optM C F G (.lst es) ρ = (evs optM C F G es ρ).map .list := by conv => { lhs; unfold ev }; simp [Option.map_eq_bind]; rfl
@[simp] theorem o_ix {a b : E} : ev optM C F G (.ix a b) ρ = (ev optM C F G a ρ).bind fun x => (ev optM C F G b ρ).bind fun y => dIx x y := by conv => { lhs; unfold ev }; simp
@[simp] theorem o_sl {a b c : E} : ev optM C F G (.sl a b c) ρ = (ev optM C F G a ρ).bind fun x => (ev optM C F G b ρ).bind fun y => (bound? b y).bind fun l => (ev optM C F G c ρ).bind fun z => (bound? c z).bind fun h => dSl x l h := by conv => { lhs; unfold ev }; simp
@[simp] theorem o_rev {a : E} : ev optM C F G (.rev a) ρ = (ev optM C F G a ρ).bind dRev := by conv => { lhs; unfold ev }; simp
@[simp] theorem o_yes : ev optM C F G .yes ρ = some (.bool true) := by unfold ev; rfl
@[simp] theorem o_call {f : Nat} {es : Es} : ev optM C F G (.call f es) ρ = (evs optM C F G es ρ).bind fun ds => F f ds := by conv => { lhs; unfold ev }; simp
@[simp] theorem o_callw {f : Nat} {es : Es} : ev optM C F G (.callw f es) ρ = (evs optM C F G es ρ).bind fun ds => G f ds := by conv => { lhs; unfold ev }; simp
@[simp] theorem o_bi {b : Bi} {a : E} : ev optM C F G (.bi b a) ρ = (ev optM C F G a ρ).bind fun x => dBi b x := by conv => { lhs; unfold ev }; simp
@[simp] theorem o_bist {s : Src} : ev optM C F G (.bis .tuple s) ρ = (evS optM C F G s ρ).map .tuple := by conv => { lhs; unfold ev }; simp [Option.map_eq_bind]; rfl
@[simp] theorem o_bisl {s : Src} : ev optM C F G (.bis .list s) ρ = (evS optM C F G s ρ).map .list := by conv => { lhs; unfold ev }; simp [Option.map_eq_bind]; rfl
@[simp] theorem o_mx {a b : E} : ev optM C F G (.mx a b) ρ = (ev optM C F G a ρ).bind fun x => (ev optM C F G b ρ).bind fun y => dMx x y := by conv => { lhs; unfold ev }; simp
@[simp] theorem o_mn {a b : E} : ev optM C F G (.mn a b) ρ = (ev optM C F G a ρ).bind fun x => (ev optM C F G b ρ).bind fun y => dMn x y := by conv => { lhs; unfold ev }; simp
@[simp] theorem o_isin {a : E} {t : Ty} : ev optM C F G (.isin a t) ρ = (ev optM C F G a ρ).map fun x => .bool (dIs x t) := by conv => { lhs; unfold ev }; simp [Option.map_eq_bind]; rfl
noncomputable def oStep (C : Nat → Option D) (F G : Nat → List D → Option D) (p : Pat) (t elt : E) (ρb : Env) (d : D) : Option (Option D) := (bindP p d ρb).bind fun ρ1 => (ev optM C F G t ρ1).bind fun x => (bool? x).bind fun b => if b = true then (ev optM C F G elt ρ1).bind fun y => some (some y) else some none
@[simp] theorem o_comp {own : List Nat} {p : Pat} {s : Src} {t elt : E} : ev optM C F G (.comp own p s t elt) ρ = (evS optM C F G s ρ).bind fun xs => (compL optM (oStep C F G p t elt (wip own ρ)) xs).bind fun ys => some (.list ys) := by
  conv => { lhs; unfold ev }
  simp
  rfl
@[simp] theorem os_nil : evs optM C F G .nil ρ = some [] := by unfold evs; rfl
@[simp] theorem os_cons {e : E} {es : Es} : evs optM C F G (.cons e es) ρ = (ev optM C F G e ρ).bind fun d => (evs optM C F G es ρ).bind fun ds => some (d :: ds) := by conv => { lhs; unfold evs }; simp
@[simp] theorem oS_val {e : E} : evS optM C F G (.val e) ρ = (ev optM C F G e ρ).bind items := by conv => { lhs; unfold evS }; simp
@[simp] theorem oS_r1 {a : E} : evS optM C F G (.r1 a) ρ = (ev optM C F G a ρ).bind fun x => (int? x).bind fun i => if okR 0 i = true then some (rng 0 i) else none := by conv => { lhs; unfold evS }; simp
@[simp] theorem oS_r2 {a b : E} : evS optM C F G (.r2 a b) ρ = (ev optM C F G a ρ).bind fun x => (int? x).bind fun i => (ev optM C F G b ρ).bind fun y => (int? y).bind fun j => if okR i j = true then some (rng i j) else none := by conv => { lhs; unfold evS }; simp
@[simp] theorem oS_r3 {a b c : E} : evS optM C F G (.r3 a b c) ρ = (ev optM C F G a ρ).bind fun x => (int? x).bind fun i => (ev optM C F G b ρ).bind fun y => (int? y).bind fun j => (ev optM C F G c ρ).bind fun z => (int? z).bind fun k => if (okR j i && k == -1) = true then some (rngD i j) else none := by conv => { lhs; unfold evS }; simp
@[simp] theorem oS_zip {a b : E} : evS optM C F G (.zip a b) ρ = (ev optM C F G a ρ).bind fun x => (ev optM C F G b ρ).bind fun y => zipD x y := by conv => { lhs; unfold evS }; simp
/-- a turn of a for -/
noncomputable def fBody (C : Nat → Option D) (F G : Nat → List D → Option D) (p : Pat) (b : Ss) (d : D) (ρ : Env) : Option Fl := (bindP p d ρ).bind fun ρ => exs optM C F G b ρ
/-- a turn of a while -/
noncomputable def wBody (C : Nat → Option D) (F G : Nat → List D → Option D) (t : E) (b : Ss) (ρ0 : Env) : Env → Option (Env ⊕ Fl) := whlStep optM (esc true t) (fun ρ => (ev optM C F G t ρ).bind bool?) (exs optM C F G b) ρ0
/-! statements -/
@[simp] theorem x_pass : ex optM C F G .pass ρ = some (.nx ρ) := by unfold ex; rfl
@[simp] theorem x_asg {i : Nat} {e : E} : ex optM C F G (.asg i e) ρ = (ev optM C F G e (frz (esc false e) ρ)).map fun d => .nx ((frz (esc false e) ρ).set i (slotOf e d)) := by conv => { lhs; unfold ex }; simp [Option.map_eq_bind]; rfl
@[simp] theorem x_asgp {is : List Nat} {es : Es} : ex optM C F G (.asgp is es) ρ = (evs optM C F G es (frz (escs es) ρ)).bind fun ds => (setAll is es ds (frz (escs es) ρ)).map .nx := by conv => { lhs; unfold ex }; simp [Option.map_eq_bind]; rfl
@[simp] theorem x_asgt {p : Pat} {e : E} : ex optM C F G (.asgt p e) ρ = (ev optM C F G e (frz (esc false e) ρ)).bind fun d => (bindP p d (frz (esc false e) ρ)).map .nx := by conv => { lhs; unfold ex }; simp [Option.map_eq_bind]; rfl
@[simp] theorem x_aug {i : Nat} {o : Op2} {e : E} : ex optM C F G (.aug i o e) ρ = (getV ρ i).bind fun x => (ev optM C F G e (frz (esc false e) ρ)).bind fun y => (int? x).bind fun a => (int? y).bind fun b => (dBin o (.int a) (.int b)).map fun z => .nx ((frz (esc false e) ρ).set i (.sh z)) := by conv => { lhs; unfold ex }; simp [Option.map_eq_bind]; rfl
@[simp] theorem x_app {i : Nat} {e : E} : ex optM C F G (.app i e) ρ = (getO (frz (esc false e) ρ) i).bind fun x => (ev optM C F G e (frz (esc false e) ρ)).bind fun d => (dApp d x).map fun y => .nx ((frz (esc false e) ρ).set i (.ow y)) := by conv => { lhs; unfold ex }; simp [Option.map_eq_bind]; rfl
@[simp] theorem x_ext {i : Nat} {e : E} : ex optM C F G (.ext i e) ρ = (getO (frz (esc false e) ρ) i).bind fun x => (ev optM C F G e (frz (esc false e) ρ)).bind fun d => (dExt d x).map fun y => .nx ((frz (esc false e) ρ).set i (.ow y)) := by conv => { lhs; unfold ex }; simp [Option.map_eq_bind]; rfl
@[simp] theorem x_ins0 {i : Nat} {e : E} : ex optM C F G (.ins0 i e) ρ = (getO (frz (esc false e) ρ) i).bind fun x => (ev optM C F G e (frz (esc false e) ρ)).bind fun d => (dIns0 d x).map fun y => .nx ((frz (esc false e) ρ).set i (.ow y)) := by conv => { lhs; unfold ex }; simp [Option.map_eq_bind]; rfl
@[simp] theorem x_seti {i : Nat} {k e : E} : ex optM C F G (.seti i k e) ρ = (getO (frz (esc false e ++ esc false k) ρ) i).bind fun x => (ev optM C F G e (frz (esc false e ++ esc false k) ρ)).bind fun d => (ev optM C F G k (frz (esc false e ++ esc false k) ρ)).bind fun j => (dSet j d x).map fun y => .nx ((frz (esc false e ++ esc false k) ρ).set i (.ow y)) := by conv => { lhs; unfold ex }; simp [Option.map_eq_bind]; rfl
@[simp] theorem x_popt {p : Pat} {i : Nat} : ex optM C F G (.popt p i) ρ = (getO ρ i).bind fun x => (dPop x).bind fun y => (bindP p y.1 (ρ.set i (.ow y.2))).map .nx := by conv => { lhs; unfold ex }; simp [Option.map_eq_bind]; rfl
@[simp] theorem x_ite {t : E} {a b : Ss} : ex optM C F G (.ite t a b) ρ = (ev optM C F G t (frz (esc true t) ρ)).bind fun x => (bool? x).bind fun t' => if t' = true then exs optM C F G a (frz (esc true t) ρ) else exs optM C F G b (frz (esc true t) ρ) := by conv => { lhs; unfold ex }; simp
@[simp] theorem x_for {p : Pat} {s : Src} {b : Ss} : ex optM C F G (.for_ p s b) ρ = (evS optM C F G s (frz (escF s) ρ)).bind fun xs => forL optM (fBody C F G p b) (frz (escF s) ρ) xs (frz (escF s) ρ) := by
  conv => { lhs; unfold ex }
  simp
  rfl
@[simp] theorem x_whl {t : E} {b : Ss} : ex optM C F G (.whl t b) ρ = whO (wBody C F G t b (frz (esc true t) ρ)) (frz (esc true t) ρ) := by
  conv => { lhs; unfold ex }
  simp
  rfl
@[simp] theorem x_ret {e : E} : ex optM C F G (.ret e) ρ = (ev optM C F G e (frz (esc false e) ρ)).map .rt := by conv => { lhs; unfold ex }; simp [Option.map_eq_bind]; rfl
@[simp] theorem x_brk : ex optM C F G .brk ρ = some (.bk ρ) := by unfold ex; rfl
@[simp] theorem xs_nil : exs optM C F G .nil ρ = some (.nx ρ) := by unfold exs; rfl
@[simp] theorem xs_cons {s : S} {r : Ss} : exs optM C F G (.cons s r) ρ = (ex optM C F G s ρ).bind fun f => match f with
    | .nx ρ => exs optM C F G r ρ
    | .rt d => some (.rt d)
    | .bk ρ => some (.bk ρ) := by conv => { lhs; unfold exs }; simp <;> rfl
end
/-! slots that are written out -/
@[simp] theorem frz_nil (ρ : Env) : frz [] ρ = ρ := by
  unfold frz
  refine List.ext_getElem? fun i => ?_
  rw [List.getElem?_mapIdx]
  cases ρ[i]? <;> simp
@[simp] theorem getV_0 {s : Slot} {ρ : Env} : getV (s :: ρ) 0 = s.val := rfl
@[simp] theorem getV_s {s : Slot} {ρ : Env} {n : Nat} : getV (s :: ρ) (n + 1) = getV ρ n := rfl
@[simp] theorem getO_0 {s : Slot} {ρ : Env} : getO (s :: ρ) 0 = s.own? := rfl
@[simp] theorem getO_s {s : Slot} {ρ : Env} {n : Nat} : getO (s :: ρ) (n + 1) = getO ρ n := rfl
@[simp] theorem val_no : Slot.val .no = none := rfl
@[simp] theorem val_sh {d : D} : Slot.val (.sh d) = some d := rfl
@[simp] theorem val_ow {d : D} : Slot.val (.ow d) = some d := rfl
@[simp] theorem own_sh {d : D} : Slot.own? (.sh d) = none := rfl
@[simp] theorem own_ow {d : D} : Slot.own? (.ow d) = some d := rfl
@[simp] theorem int_int {i : Int} : int? (.int i) = some i := rfl
@[simp] theorem bool_bool {i : Bool} : bool? (.bool i) = some i := rfl
@[simp] theorem b_addi {a b : Int} : dBin .add (.int a) (.int b) = some (.int (a + b)) := rfl
@[simp] theorem b_subi {a b : Int} : dBin .sub (.int a) (.int b) = some (.int (a - b)) := rfl
@[simp] theorem b_muli {a b : Int} : dBin .mul (.int a) (.int b) = if small64 a || small64 b then some (.int (a * b)) else none := rfl
@[simp] theorem b_addt {a b : List D} : dBin .add (.tuple a) (.tuple b) = if a.length + b.length ≤ LINE then some (.tuple (a ++ b)) else none := rfl
@[simp] theorem b_addl {a b : List D} : dBin .add (.list a) (.list b) = if a.length + b.length ≤ LINE then some (.list (a ++ b)) else none := rfl
@[simp] theorem b_fdiv {a b : Int} : dBin .fdiv (.int a) (.int b) = if b ≠ 0 ∧ b.natAbs < 1606938044258990275541962092341162602522202993782792835301376 then some (.int (a.fdiv b)) else none := rfl
@[simp] theorem b_mod {a b : Int} : dBin .mod (.int a) (.int b) = if b ≠ 0 then some (.int (a.fmod b)) else none := rfl
@[simp] theorem i_int {i : Int} : dBi .int (.int i) = some (.int i) := rfl
@[simp] theorem i_bool {i : Bool} : dBi .int (.bool i) = some (.int (if i then 1 else 0)) := rfl
@[simp] theorem i_lenl {i : List D} : dBi .len (.list i) = some (.int i.length) := rfl
@[simp] theorem i_lent {i : List D} : dBi .len (.tuple i) = some (.int i.length) := rfl
@[simp] theorem i_abs {i : Int} : dBi .abs (.int i) = some (.int (if i < 0 then -i else i)) := rfl
@[simp] theorem i_tupl {i : List D} : dBi .tuple (.list i) = some (.tuple i) := rfl
@[simp] theorem i_tupt {i : List D} : dBi .tuple (.tuple i) = some (.tuple i) := rfl
@[simp] theorem i_lstl {i : List D} : dBi .list (.list i) = some (.list i) := rfl
@[simp] theorem i_lstt {i : List D} : dBi .list (.tuple i) = some (.list i) := rfl
@[simp] theorem m_mx {a b : Int} : dMx (.int a) (.int b) = some (.int (if b > a then b else a)) := rfl
@[simp] theorem m_mn {a b : Int} : dMn (.int a) (.int b) = some (.int (if b < a then b else a)) := rfl
@[simp] theorem s_l {a : List D} {l h : Option Int} : dSl (.list a) l h = some (.list (cut a l h)) := rfl
@[simp] theorem s_t {a : List D} {l h : Option Int} : dSl (.tuple a) l h = some (.tuple (cut a l h)) := rfl
@[simp] theorem ix_l {a : List D} {i : Int} : dIx (.list a) (.int i) = L2.atI a i := rfl
@[simp] theorem ix_t {a : List D} {i : Int} : dIx (.tuple a) (.int i) = L2.atI a i := rfl
@[simp] theorem rv_l {a : List D} : dRev (.list a) = some (.list a.reverse) := rfl
@[simp] theorem rv_t {a : List D} : dRev (.tuple a) = some (.tuple a.reverse) := rfl
@[simp] theorem fr_rev {a : E} : E.fresh (.rev a) = true := rfl
@[simp] theorem it_l {a : List D} : items (.list a) = some a := rfl
@[simp] theorem it_t {a : List D} : items (.tuple a) = some a := rfl
@[simp] theorem bn_none {d : D} : bound? .none d = some none := rfl
@[simp] theorem ap_l {d : D} {xs : List D} : dApp d (.list xs) = if xs.length < LINE then some (.list (xs ++ [d])) else none := rfl
@[simp] theorem bp_nm {i : Nat} {d : D} {ρ : Env} : bindP (.nm i) d ρ = some (ρ.set i (.sh d)) := by unfold bindP; rfl
@[simp] theorem bp_tp {ps : Pats} {ds : List D} {ρ : Env} : bindP (.tp ps) (.tuple ds) ρ = bindPs ps ds ρ := by conv => { lhs; unfold bindP }
@[simp] theorem bps_nil {ρ : Env} : bindPs .nil [] ρ = some ρ := by unfold bindPs; rfl
@[simp] theorem bps_cons {p : Pat} {ps : Pats} {d : D} {ds : List D} {ρ : Env} : bindPs (.cons p ps) (d :: ds) ρ = (bindP p d ρ).bind fun ρ => bindPs ps ds ρ := by conv => { lhs; unfold bindPs }
@[simp] theorem c_lti {a b : Int} : dCmp .lt (.int a) (.int b) = some (decide (a < b)) := by
  show (if cmpOk (.int a) (.int b) = true then some (W.dataLt (.int a) (.int b)) else none) = _
  rw [if_pos (by rfl)]
  simp [PySem.W.dataLt_int, PyData.eqv, Bool.beq_eq_decide_eq, ← decide_not, Int.not_lt]
@[simp] theorem c_gti {a b : Int} : dCmp .gt (.int a) (.int b) = some (decide (b < a)) := by
  show (if cmpOk (.int a) (.int b) = true then some (W.dataLt (.int b) (.int a)) else none) = _
  rw [if_pos (by rfl)]
  simp [PySem.W.dataLt_int, PyData.eqv, Bool.beq_eq_decide_eq, ← decide_not, Int.not_lt]
@[simp] theorem c_lei {a b : Int} : dCmp .le (.int a) (.int b) = some (decide (a ≤ b)) := by
  show (if cmpOk (.int a) (.int b) = true then some (!W.dataLt (.int b) (.int a)) else none) = _
  rw [if_pos (by rfl)]
  simp [PySem.W.dataLt_int, PyData.eqv, Bool.beq_eq_decide_eq, ← decide_not, Int.not_lt]
@[simp] theorem c_gei {a b : Int} : dCmp .ge (.int a) (.int b) = some (decide (b ≤ a)) := by
  show (if cmpOk (.int a) (.int b) = true then some (!W.dataLt (.int a) (.int b)) else none) = _
  rw [if_pos (by rfl)]
  simp [PySem.W.dataLt_int, PyData.eqv, Bool.beq_eq_decide_eq, ← decide_not, Int.not_lt]
@[simp] theorem c_eqi {a b : Int} : dCmp .eq (.int a) (.int b) = some (decide (a = b)) := by
  show (if (sh (.int a) && sh (.int b)) = true then some (PyData.eqv (.int a) (.int b)) else none) = _
  rw [if_pos (by rfl)]
  simp [PySem.W.dataLt_int, PyData.eqv, Bool.beq_eq_decide_eq, ← decide_not, Int.not_lt]
@[simp] theorem c_nei {a b : Int} : dCmp .ne (.int a) (.int b) = some (!decide (a = b)) := by
  show (if (sh (.int a) && sh (.int b)) = true then some (!PyData.eqv (.int a) (.int b)) else none) = _
  rw [if_pos (by rfl)]
  rw [show PyData.eqv (.int a) (.int b) = (a == b) by simp [PyData.eqv], Bool.beq_eq_decide_eq]

@[simp] theorem slot_int {e : E} {i : Int} : slotOf e (.int i) = .sh (.int i) := by simp [slotOf, isMut]
@[simp] theorem slot_bool {e : E} {i : Bool} : slotOf e (.bool i) = .sh (.bool i) := by simp [slotOf, isMut]
@[simp] theorem slot_none {e : E} : slotOf e .none = .sh .none := by simp [slotOf, isMut]
@[simp] theorem slot_str {e : E} {i : Str} : slotOf e (.str i) = .sh (.str i) := by simp [slotOf, isMut]
@[simp] theorem slot_tup {e : E} {i : List D} : slotOf e (.tuple i) = .sh (.tuple i) := by simp [slotOf, isMut]
@[simp] theorem slot_lst {e : E} {i : List D} : slotOf e (.list i) = if e.fresh = true then .ow (.list i) else .sh (.list i) := by simp [slotOf, isMut]
@[simp] theorem fr_lst {es : Es} : E.fresh (.lst es) = true := rfl
@[simp] theorem fr_comp {a : List Nat} {b : Pat} {c : Src} {d e : E} : E.fresh (.comp a b c d e) = true := rfl
@[simp] theorem fr_comp2 {a a1 : List Nat} {b b1 : Pat} {c c1 : Src} {d d1 e : E} : E.fresh (.comp2 a a1 b c d b1 c1 d1 e) = true := rfl
@[simp] theorem fr_bin {o : Op2} {a b : E} : E.fresh (.bin o a b) = true := rfl
@[simp] theorem fr_sl {a b c : E} : E.fresh (.sl a b c) = true := rfl
@[simp] theorem fr_var {a : Nat} : E.fresh (.var a) = false := rfl
@[simp] theorem fr_ix {a b : E} : E.fresh (.ix a b) = false := rfl
@[simp] theorem fr_call {a : Nat} {b : Es} : E.fresh (.call a b) = false := rfl
@[simp] theorem fr_callw {a : Nat} {b : Es} : E.fresh (.callw a b) = false := rfl
@[simp] theorem fr_ife {a b c : E} : E.fresh (.ife a b c) = false := rfl
@[simp] theorem fr_sorted {a : E} : E.fresh (.bi .sorted a) = true := rfl
@[simp] theorem fr_list {a : E} : E.fresh (.bi .list a) = true := rfl
@[simp] theorem fr_blist {a : Src} : E.fresh (.bis .list a) = true := rfl
def frzAt (vs : List Nat) : Nat → Env → Env
  | _, [] => []
  | k, s :: ρ => (if vs.contains k = true then s.frz else s) :: frzAt vs (k + 1) ρ
def wipAt (vs : List Nat) : Nat → Env → Env
  | _, [] => []
  | k, s :: ρ => (if vs.contains k = true then Slot.no else s) :: wipAt vs (k + 1) ρ
theorem frz_at (vs : List Nat) : ∀ (k : Nat) (ρ : Env), (ρ.mapIdx fun i s => if vs.contains (i + k) then s.frz else s) = frzAt vs k ρ
  | k, [] => rfl
  | k, s :: ρ => by
    rw [List.mapIdx_cons, frzAt, ← frz_at vs (k + 1) ρ]
    simp only [Nat.zero_add, Nat.add_assoc, Nat.add_comm 1 k]
theorem wip_at (vs : List Nat) : ∀ (k : Nat) (ρ : Env), (ρ.mapIdx fun i s => if vs.contains (i + k) then Slot.no else s) = wipAt vs k ρ
  | k, [] => rfl
  | k, s :: ρ => by
    rw [List.mapIdx_cons, wipAt, ← wip_at vs (k + 1) ρ]
    simp only [Nat.zero_add, Nat.add_assoc, Nat.add_comm 1 k]
@[simp] theorem frz_cons {v : Nat} {vs : List Nat} {ρ : Env} : frz (v :: vs) ρ = frzAt (v :: vs) 0 ρ := frz_at (v :: vs) 0 ρ
@[simp] theorem wip_cons {v : Nat} {vs : List Nat} {ρ : Env} : wip (v :: vs) ρ = wipAt (v :: vs) 0 ρ := wip_at (v :: vs) 0 ρ
@[simp] theorem frzAt_nil {vs : List Nat} {k : Nat} : frzAt vs k [] = [] := rfl
@[simp] theorem frzAt_cons {vs : List Nat} {k : Nat} {s : Slot} {ρ : Env} : frzAt vs k (s :: ρ) = (if vs.contains k = true then s.frz else s) :: frzAt vs (k + 1) ρ := rfl
@[simp] theorem wipAt_nil {vs : List Nat} {k : Nat} : wipAt vs k [] = [] := rfl
@[simp] theorem wipAt_cons {vs : List Nat} {k : Nat} {s : Slot} {ρ : Env} : wipAt vs k (s :: ρ) = (if vs.contains k = true then Slot.no else s) :: wipAt vs (k + 1) ρ := rfl
@[simp] theorem sfrz_no : Slot.frz .no = .no := rfl
@[simp] theorem sfrz_sh {d : D} : Slot.frz (.sh d) = .sh d := rfl
@[simp] theorem sfrz_ow {d : D} : Slot.frz (.ow d) = .sh d := rfl
@[simp] theorem sfrz_fx {d : L2.V} : Slot.frz (.fx d) = .fx d := rfl
def mk1 : Slot → Slot → Slot
  | .no, _ => .no
  | _, b => b
@[simp] theorem mk_no {b : Slot} : mk1 .no b = .no := rfl
@[simp] theorem mk_sh {d : D} {b : Slot} : mk1 (.sh d) b = b := rfl
@[simp] theorem mk_ow {d : D} {b : Slot} : mk1 (.ow d) b = b := rfl
@[simp] theorem mk_fx {d : L2.V} {b : Slot} : mk1 (.fx d) b = b := rfl
@[simp] theorem mk_same {b : Slot} : mk1 b b = b := by cases b <;> rfl
@[simp] theorem msk_nil {ρ0 : Env} : msk ρ0 [] = [] := rfl
@[simp] theorem msk_cons {a b : Slot} {ρ0 ρ : Env} : msk (a :: ρ0) (b :: ρ) = mk1 a b :: msk ρ0 ρ := by
  unfold msk
  rw [List.mapIdx_cons]
  simp only [List.getElem?_cons_zero, List.getElem?_cons_succ]
  cases a <;> rfl

@[simp] theorem ints_map : ∀ ms : List Int, ints? (ms.map .int) = some ms
  | [] => rfl
  | m :: ms => by simp [ints?, ints_map ms]
@[simp] theorem i_sum {ms : List Int} : dBi .sum (.list (ms.map .int)) = some (.int ms.sum) := by simp [dBi]

/-! loops -/
theorem forL_ind {g : D → Env → Option Fl} {ρ0 : Env} (I : Nat → Env → Prop) {xs : List D} (step : ∀ i x ρ, xs[i]? = some x → I i ρ → ∃ ρ', g x ρ = some (.nx ρ') ∧ I (i + 1) (msk ρ0 ρ')) : ∀ {ρ : Env}, I 0 ρ → ∃ ρ', forL optM g ρ0 xs ρ = some (.nx ρ') ∧ I xs.length ρ' := by
  induction xs generalizing I with
  | nil => exact fun {ρ} h => ⟨ρ, by unfold forL; rfl, h⟩
  | cons x xs ih =>
    intro ρ h
    obtain ⟨ρ', e, h'⟩ := step 0 x ρ rfl h
    obtain ⟨ρ'', e2, h''⟩ := ih (fun i ρ => I (i + 1) ρ) (fun i y ρ hy hI => step (i + 1) y ρ (by simpa using hy) hI) h'
    refine ⟨ρ'', ?_, h''⟩
    unfold forL
    rw [o_bind, e]
    exact e2
theorem wBody_go {C : Nat → Option D} {F G : Nat → List D → Option D} {t : E} {b : Ss} {ρ0 ρ ρ' : Env} (h : ev optM C F G t ρ = some (.bool true)) (h2 : exs optM C F G b ρ = some (.nx ρ')) : wBody C F G t b ρ0 ρ = some (.inl (frz (esc true t) (msk ρ0 ρ'))) := by
  unfold wBody whlStep
  simp [h, h2]
theorem wBody_rt {C : Nat → Option D} {F G : Nat → List D → Option D} {t : E} {b : Ss} {ρ0 ρ : Env} {d : D} (h : ev optM C F G t ρ = some (.bool true)) (h2 : exs optM C F G b ρ = some (.rt d)) : wBody C F G t b ρ0 ρ = some (.inr (.rt d)) := by
  unfold wBody whlStep
  simp [h, h2]
theorem wBody_end {C : Nat → Option D} {F G : Nat → List D → Option D} {t : E} {b : Ss} {ρ0 ρ : Env} (h : ev optM C F G t ρ = some (.bool false)) : wBody C F G t b ρ0 ρ = some (.inr (.nx ρ)) := by
  unfold wBody whlStep
  simp [h]
theorem compL_map {g : D → Option (Option D)} {xs : List D} {f : D → Option D} (h : ∀ x ∈ xs, g x = some (f x)) : compL optM g xs = some (xs.filterMap f) := by
  induction xs with
  | nil => unfold compL; rfl
  | cons x xs ih =>
    unfold compL
    rw [o_bind, h x (by simp), ih fun y hy => h y (by simp [hy])]
    cases hf : f x <;> simp [hf]
end PV

set_option maxHeartbeats 4000000
/-! PV: the law's own draws: what _law_draws reckons. -/
namespace PV
open PySem PyProof.Rows L2 RZ

abbrev EM (o : Op2) (a b : E) : E := .bin o a b
def dr997 (e : E) : E := .bin .mod e (.int 997)
def drPre : Ss := .cons (.asg 2 (.lst .nil)) (.cons (.asg 3 (.int 7)) .nil)
def drB7 : Ss := .cons (.ite (.cmp .gt (.var 6) (.int 0)) (.cons (.app 2 (dr997 (.bi .int (.var 6)))) (.cons (.asg 6 (.bin .fdiv (.var 6) (.int 997))) .nil)) .nil) .nil
def drFor : S := .for_ (.nm 7) (.r1 (.int 60)) drB7
def drIf : S := .ite (.cmp .ge (.var 5) (.bin .pow (.int 10) (.int 18))) (.cons (.asg 6 (.var 5)) .nil)
  (.cons (.app 2 (dr997 (.bi .int (.var 5)))) (.cons (.app 2 (dr997 (.bin .mod (.bi .int (.bin .add (.bin .mul (.var 3) (.int 69621)) (.int 5))) (.int 65521)))) .nil))
def drBody : Ss := .cons (.asg 3 (.bin .mod (.bi .int (.bin .add (.bin .add (.bin .mul (.var 3) (.int 48271)) (.bin .mod (.var 5) (.int 1000003))) (.var 4))) (.int 65537)))
  (.cons (.asg 6 (.int 0)) (.cons drIf (.cons drFor .nil)))
def drB4 : Ss := .cons (.asg 3 (.bin .mod (.bi .int (.bin .add (.bin .add (.bin .mul (.var 3) (.int 16807)) (.var 4)) (.int 1))) (.int 65537))) (.cons (.app 2 (dr997 (.bi .int (.var 3)))) .nil)
def drPost : Ss := .cons (.for_ (.nm 4) (.r1 (.var 1)) drB4)
  (.cons (.ret (.sl (.var 2) .none (.var 1))) .nil)
def drE (v : V) (n : Int) (ds : List Int) (s3 s4 s5 s6 s7 : Slot) : Env := [.fx v, .sh (.int n), .ow (.list (ds.map .int)), s3, s4, s5, s6, s7]
section
variable {C : Nat → Option D} {F G : Nat → List D → Option D}
theorem sm (i : Int) (j : Int) (h : small64 j = true) : (small64 i || small64 j) = true := by rw [h, Bool.or_true]
theorem dr_for (v : V) (n : Int) (s3 s4 s5 s7 : Slot) (r : Int) (ds : List Int) (h : ds.length + 60 ≤ LINE) : ∃ (ds' : List Int) (r' : Int) (s7' : Slot), ex optM C F G drFor (drE v n ds s3 s4 s5 (.sh (.int r)) s7) = some (.nx (drE v n ds' s3 s4 s5 (.sh (.int r')) s7')) ∧ ds'.length ≤ ds.length + 60 := by
  have hok : okR 0 60 = true := by decide
  have key := forL_ind (g := fBody C F G (.nm 7) drB7)
    (ρ0 := drE v n ds s3 s4 s5 (.sh (.int r)) s7) (xs := rng 0 60) (fun i ρ => ∃ (ds' : List Int) (r' : Int) (s7' : Slot), ρ = drE v n ds' s3 s4 s5 (.sh (.int r')) s7' ∧ ds'.length ≤ ds.length + i) ?_ (ρ := drE v n ds s3 s4 s5 (.sh (.int r)) s7) ⟨ds, r, s7, rfl, by omega⟩
  · obtain ⟨ρ', e, ds', r', s7', rfl, hl⟩ := key
    refine ⟨ds', r', s7', ?_, by simpa [rng] using hl⟩
    unfold drFor
    rw [x_for]
    simp only [oS_r1, o_int, Option.bind_some, int_int, hok, if_true, escF, esc, frz_nil]
    exact e
  · rintro i x ρ hx ⟨ds', r', s7', rfl, hl⟩
    have hi := (rng_get hx).1
    have hl2 : ds'.length < LINE := by simp at hi; omega
    by_cases hr : 0 < r'
    · refine ⟨_, by simp [fBody, drB7, drE, dr997, esc, hr, hl2]; rfl, ds' ++ [r'.fmod 997], r'.fdiv 997, _, by simp [drE]; rfl, by simp; omega⟩
    · refine ⟨_, by simp [fBody, drB7, drE, dr997, esc, hr]; rfl, ds', r', _, by simp [drE]; rfl, by omega⟩
theorem dr_body (v : V) (n m k c : Int) (s6 s7 : Slot) (ds : List Int) (h : ds.length + 62 ≤ LINE) : ∃ (ds' : List Int) (m' : Int) (s6' s7' : Slot), exs optM C F G drBody (drE v n ds (.sh (.int m)) (.sh (.int k)) (.sh (.int c)) s6 s7) = some (.nx (drE v n ds' (.sh (.int m')) (.sh (.int k)) (.sh (.int c)) s6' s7')) ∧ ds'.length ≤ ds.length + 62 := by
  have h1 : small64 48271 = true := by decide
  have h2 : small64 69621 = true := by decide
  have h3 : dBin .pow (.int 10) (.int 18) = some (.int 1000000000000000000) := by
    show (if (0 : Int) ≤ 18 ∧ (18 : Int) ≤ 1000000 ∧ (10 : Int).natAbs < 18446744073709551616 then some (PyData.int (10 ^ (18 : Int).toNat)) else none) = _
    rw [if_pos (by decide)]
    rfl
  have l1 : ds.length < LINE := by omega
  have l2 : ds.length + 1 < LINE := by omega
  generalize hm : (m * 48271 + c.fmod 1000003 + k).fmod 65537 = m2
  have h4 : small64 m2 = true ∨ True := .inr trivial
  by_cases hc : 1000000000000000000 ≤ c
  · obtain ⟨ds', r', s7', e, hl⟩ := dr_for (C := C) (F := F) (G := G) v n (.sh (.int m2)) (.sh (.int k)) (.sh (.int c)) s7 c ds (by omega)
    refine ⟨ds', m2, .sh (.int r'), s7', ?_, by omega⟩
    unfold drBody drIf
    simp only [drE] at e
    simp [drE, dr997, esc, h1, h2, h3, hm, hc, l1, l2, e]
  · obtain ⟨ds', r', s7', e, hl⟩ := dr_for (C := C) (F := F) (G := G) v n (.sh (.int m2)) (.sh (.int k)) (.sh (.int c)) s7 0 (ds ++ [c.fmod 997, ((m2 * 69621 + 5).fmod 65521).fmod 997]) (by simp; omega)
    refine ⟨ds', m2, .sh (.int r'), s7', ?_, by simp at hl; omega⟩
    unfold drBody drIf
    simp only [drE] at e
    simp [drE, dr997, esc, h1, h2, h3, hm, hc, l1, l2] at e ⊢
    simp [e]
theorem dr_post (v : V) (n m : Int) (s4 s5 s6 s7 : Slot) (ds : List Int) (hn : 0 ≤ n ∧ n ≤ 1000) (h : ds.length + 1000 ≤ LINE) : ∃ (ds' : List Int), exs optM C F G drPost (drE v n ds (.sh (.int m)) s4 s5 s6 s7) = some (.rt (.list (ds'.map .int))) := by
  have h1 : small64 16807 = true := by decide
  have hok : okR 0 n = true := by unfold okR LINE; exact decide_eq_true (by omega)
  have key := forL_ind (g := fBody C F G (.nm 4) drB4)
    (ρ0 := drE v n ds (.sh (.int m)) s4 s5 s6 s7) (xs := rng 0 n) (fun i ρ => ∃ (ds' : List Int) (m' : Int) (s4' : Slot), ρ = drE v n ds' (.sh (.int m')) s4' s5 s6 s7 ∧ ds'.length ≤ ds.length + i) ?_ (ρ := drE v n ds (.sh (.int m)) s4 s5 s6 s7) ⟨ds, m, s4, rfl, by omega⟩
  · obtain ⟨ρ', e, ds', m', s4', rfl, hl⟩ := key
    refine ⟨cut ds' none (some n), ?_⟩
    unfold drPost
    simp only [xs_cons, x_for, oS_r1, o_int, o_var, Option.bind_some, int_int, hok, if_true, escF, esc, frz_nil]
    simp only [drE, getV_0, getV_s, val_sh, Option.bind_some, int_int, hok, if_true] at e ⊢
    rw [e]
    simp [esc, bound?, cut, List.map_take, List.map_drop]
  · rintro i x ρ hx ⟨ds', m', s4', rfl, hl⟩
    obtain ⟨hi, rfl⟩ := rng_get hx
    have hl2 : ds'.length < LINE := by omega
    refine ⟨_, by simp [fBody, drB4, drE, dr997, esc, hl2, h1]; rfl, ds' ++ [_], _, _, by simp [drE]; exact ⟨rfl, rfl, rfl⟩, by simp; omega⟩
end
end PV

set_option maxHeartbeats 4000000
/-! PV: _law_draws walked. -/
namespace PV
open PySem PyProof.Rows L2 RZ

theorem Sim.fixAt {K : PySem.W.Frag} {w : Wp} {iw : Nat} {O0 O : List Addr} {H0 H : Hp} {σ : L2.St} {ρ : Env} (S : Sim K w iw O0 H0 O H σ ρ) {i : Nat} {v : V} (h : σ[i]? = some (some v)) (hi : w = none ∨ i ≠ iw) : Sim K w iw O0 H0 O H σ (ρ.set i (.fx v)) := by
  have get : ∀ {j : Nat} {s : Slot}, (ρ.set i (.fx v))[j]? = some s → (j = i ∧ s = .fx v) ∨ (j ≠ i ∧ ρ[j]? = some s) := fun {j s} h => by
    by_cases e : i = j
    · subst e
      by_cases hl : i < ρ.length
      · rw [List.getElem?_set_self hl] at h
        exact .inl ⟨rfl, (Option.some.inj h).symm⟩
      · rw [List.getElem?_eq_none (by simpa using hl)] at h
        cases h
    · rw [List.getElem?_set_ne e] at h
      exact .inr ⟨fun z => e z.symm, h⟩
  refine ⟨by simp [S.len], fun j s hj => ?_, fun j l d1 d2 p a b c e => ?_, S.dom, S.dom0, S.sub, S.fresh, S.ent, S.w0, S.wO, fun t ht => ?_, fun j d p a b => ?_⟩
  · rcases get hj with ⟨rfl, rfl⟩ | ⟨_, hj⟩
    · show σ[j]?.join = some v
      rw [h]
      rfl
    · exact S.slot j s hj
  · rcases get a with ⟨_, z⟩ | ⟨_, a⟩
    · cases z
    · rcases get b with ⟨_, z⟩ | ⟨_, b⟩
      · cases z
      · exact S.inj j l d1 d2 p a b c e
  · rcases hi with z | z
    · rw [ht] at z; cases z
    · refine ⟨(S.wS t ht).1, ?_⟩
      rw [List.getElem?_set_ne z]
      exact (S.wS t ht).2
  · rcases get a with ⟨_, z⟩ | ⟨_, a⟩
    · cases z
    · exact S.own j d p a b
theorem Sim.fxv {K : PySem.W.Frag} {w : Wp} {iw : Nat} {O0 O : List Addr} {H0 H : Hp} {σ : L2.St} {ρ : Env} (S : Sim K w iw O0 H0 O H σ ρ) {i : Nat} {v : V} (h : ρ[i]? = some (.fx v)) : σ[i]? = some (some v) := join_some (S.slot i _ h)
/-- a statement whose reckoning is known -/
theorem tS_of {P : Pm} {K : PySem.W.Frag} {F G : Nat → List D → Option D} (hF : ∀ n ds, Gv (F n ds) (P.F n ds)) (hG : ∀ n ds, Gv (G n ds) (P.G n ds)) {s : S} {O0 O : List Addr} {H0 H : Hp} {σ : L2.St} {ρ : Env} {De : Ends} {f : Fl} (Sm : Sim K P.w P.iw O0 H0 O H σ ρ)
    (e : ex optM P.C F G s ρ = some f) (h : EndOk P K O0 H0 O H De f) : tS P K (P.ex s) De σ H :=
  ⟨O0, H0, O, ρ, fun g => g = f, Sm, gv_ex hF hG s ρ f e _ rfl, fun g hg => by rw [hg]; exact h⟩
theorem tSs_of {P : Pm} {K : PySem.W.Frag} {F G : Nat → List D → Option D} (hF : ∀ n ds, Gv (F n ds) (P.F n ds)) (hG : ∀ n ds, Gv (G n ds) (P.G n ds)) {s : Ss} {O0 O : List Addr} {H0 H : Hp} {σ : L2.St} {ρ : Env} {De : Ends} {f : Fl} (Sm : Sim K P.w P.iw O0 H0 O H σ ρ)
    (e : exs optM P.C F G s ρ = some f) (h : EndOk P K O0 H0 O H De f) : tS P K (P.exs s) De σ H :=
  ⟨O0, H0, O, ρ, fun g => g = f, Sm, gv_exs hF hG s ρ f e _ rfl, fun g hg => by rw [hg]; exact h⟩
def spDraws (K : PySem.W.Frag) : Sp := fun vs H Q _ => ∃ (a : Addr) (n : Int) (ns : List Int) (O : List Addr), vs = [.ref a, .int n] ∧ (0 ≤ n ∧ n ≤ 1000) ∧ ns.length ≤ 63 ∧ Dm O H ∧ SqL K (hid O H) a (ns.map .int) ∧
  ∀ (ms : List Int) (p : Addr) (H' : Hp), Le H H' → H' p = some (.lst (ms.map .int)) → p ∉ O → Q (.ref p) H'
def drN (m : Str) : List Str := ["script", "many", "draws", m, "k", "cell", "rest", "turn"]
def P0 : Pm := ⟨fun _ => none, fun _ _ _ => False, fun _ _ _ => False, none, 0⟩
theorem gv_none {α : Type} {x : W α} : Gv (none : Option α) x := fun a h => by cases h
def drSc (sc : Scope) (m : Str) : Bool := isLoc sc "script" && isLoc sc "k" && isLoc sc "cell" && (sc.names.lookup ("len" : Str) == some .globalImplicit) && (sc.names.lookup ("int" : Str) == some .globalImplicit) && (sc.names.lookup ("abs" : Str) == some .globalImplicit) && (sc.names.lookup ("range" : Str) == some .globalImplicit)
section
variable {PG : Program} {W0 : World} {K : PySem.W.Frag} {mg : Str → Option Value} {base : Heap} {k : Nat}
theorem ok_draws {st s0 s1 : Stmt} {bd post : List Stmt} {f : Addr} {fd : FuncData} {m : Str} {q1 q2 q3 q4 q5 q6 q7 q8 q9 q10 q11 q12 q13 q14 q15 q16 : Pos} (F : Fun K "_law_draws" "_law_draws" st f fd) (S : FnScope (drN m) ["script", "many"] (defScope st))
    (hb : defBody st = s0 :: s1 :: .For (.Name "k" q1) (.Call (.Name "range" q2) [.Call (.Name "len" q3) [.Name "script" q4] [] q5] [] q6) (.Assign [.Name "cell" q7] (.Call (.Name "abs" q8) [.Call (.Name "int" q9) [.Subscript (.Name "script" q10) (.Name "k" q11) q12] [] q13] [] q14) q15 :: bd) [] q16 :: post)
    (hs : drSc (defScope st) m = true) (c0 : chkSs ⟨drN m, defScope st, defScope st, 0, [], []⟩ drPre [s0, s1] = true) (c1 : chkSs ⟨drN m, defScope st, defScope st, 0, [], []⟩ drBody bd = true) (c2 : chkSs ⟨drN m, defScope st, defScope st, 0, [], []⟩ drPost post = true)
    (hm : ∀ x ∈ bltN, mg x = none) : FnOk PG W0 K mg base CX0 (k + 1) f fd ["script", "many"] (spDraws K) := by
  unfold drSc at hs
  simp only [Bool.and_eq_true, beq_iff_eq] at hs
  obtain ⟨⟨⟨⟨⟨⟨t1, t2⟩, t3⟩, t4⟩, t5⟩, t6⟩, t7⟩ := hs
  have md : Md PG W0 K mg base P0 [] [] k := ⟨hm, fun _ _ _ _ h => (by cases h), fun _ _ _ h => (by cases h), fun _ _ h => (by cases h)⟩
  refine F.ok S (fun vs H Q E h => by obtain ⟨a, n, ns, O, rfl, _⟩ := h; rfl) (fun cdv A outer s H vs Q E hr h => ?_)
  obtain ⟨a, n, ns, O, rfl, hn, hl, dm, hq, q⟩ := h
  have g := md.gd (E := E) (H := H) (outer := outer) (N := drN m) S hr
  have sim := sim_start (K := K) (w := none) (iw := 0) (O := O) (H := H) (N := drN m) (vs := [.ref a, .int n]) (ds := [.int n]) (pre := [.no]) (by simp [drN]) dm trivial (fun a h => by obtain ⟨t, ht, _⟩ := h; cases ht) (fun _ h => by simpa using h) (.cons (.int n) .nil) (by simp) (fun t ht => by cases ht)
  have sim := sim.fixAt (i := 0) (v := .ref a) rfl (.inl rfl)
  have sim : Sim K P0.w P0.iw O H O H (L2.start (drN m) [.ref a, .int n]) [.fx (.ref a), .sh (.int n), .no, .no, .no, .no, .no, .no] := sim
  have hGl : ∀ {x : Str}, (defScope st).names.lookup x = some .globalImplicit → isGl ⟨drN m, defScope st, defScope st, P0.iw, [], []⟩ x = true := fun {x} h => by
    unfold isGl
    rw [h]
    rfl
  have hc0 := c0
  unfold drPre chkSs at hc0
  rw [Bool.and_eq_true] at hc0
  obtain ⟨k0, hc0⟩ := hc0
  unfold chkSs at hc0
  rw [Bool.and_eq_true] at hc0
  obtain ⟨k1, _⟩ := hc0
  have pS : ∀ p, PE (cxOf CX0 PG W0 K mg base (drN m) "_law_draws" (defScope st) f cdv A outer s H E).nox (.Name "script" p) (tVar 0) := fun p => pe_var rfl (visB t1)
  have pK : ∀ p, PE (cxOf CX0 PG W0 K mg base (drN m) "_law_draws" (defScope st) f cdv A outer s H E).nox (.Name "k" p) (tVar 4) := fun p => pe_var rfl (visB t2)
  have loc : ∀ {x : Str}, isLoc (defScope st) x = true → Loc (defScope st) x := fun {x} h => by
    unfold isLoc at h
    rw [Bool.or_eq_true, beq_iff_eq, beq_iff_eq] at h
    exact h
  rw [hb]
  refine ⟨_, pss_cons (sSt g S.kind rfl PassesOwn.never _ k0) (pss_cons (sSt g S.kind rfl PassesOwn.never _ k1) (pss_cons
    (ps_for PassesOwn.never rfl (pi_range1 (g.gl (hGl t7)) (g.blt _ (by decide)) (pa_cons (pe_callB call_len_seq (g.gl (hGl t4)) (g.blt _ (by decide)) rfl (pa_cons (pS _) pa_nil)) pa_nil)) (pg_name (i := 4) S.nd rfl (loc t2) (.inl rfl))
      (pss_cons (ps_set (i := 5) S.nd rfl (loc t3) (pe_callB bi_abs (g.gl (hGl t6)) (g.blt _ (by decide)) rfl (pa_cons (pe_callTy bi_int (g.gl (hGl t5)) (g.blt _ (by decide)) rfl (pa_cons (pe_ix ix_list (pS _) (pK _) (fun _ _ => rfl)) pa_nil)) pa_nil)) rfl (.inl rfl)) (sSs g S.kind rfl PassesOwn.never drBody c1)))
    (sSs g S.kind rfl PassesOwn.never drPost c2))), ?_⟩
  have nn : ∀ (x : Nat) (ds : List D), Gv (none : Option D) ((fun _ _ _ => False : Nat → List D → W D) x ds) := fun _ _ => gv_none
  refine tS_of (F := fun _ _ => none) (G := fun _ _ => none) nn nn (f := .nx [.fx (.ref a), .sh (.int n), .ow (.list []), .no, .no, .no, .no, .no]) sim (by simp [esc, escs]) (fun O1 σ1 H1 S1 kp1 => ?_)
  refine tS_of (F := fun _ _ => none) (G := fun _ _ => none) nn nn (f := .nx [.fx (.ref a), .sh (.int n), .ow (.list []), .sh (.int 7), .no, .no, .no, .no]) S1 (by simp [esc]) (fun O2 σ2 H2 S2 kp2 => ?_)
  have kp0 := kp1.trans kp2
  have hq2 : ∀ {O' H'}, Kp O H O' H' → SqL K H' a (ns.map .int) := fun {O' H'} kp => (hid_le O' H').sl (kp.sl hq)
  refine ⟨.ref a, S2.fxv rfl, a, ns.map .int, rfl, .inl (hq2 kp0), (ns.map V.int).length, rfl, by rw [List.length_map]; omega, by rw [List.length_map]; omega, ?_⟩
  refine ⟨fun i j σ' H' => i + j = ns.length ∧ ∃ O' ds m' s4 s5 s6 s7, Sim K P0.w P0.iw O H O' H' σ' (drE (.ref a) n ds (.sh (.int m')) s4 s5 s6 s7) ∧ Kp O H O' H' ∧ ds.length ≤ 62 * i, ⟨ns.length, by omega, O2, [], 7, .no, .no, .no, .no, S2, kp0, by simp⟩, fun i j σ' H' hW => ?_⟩
  obtain ⟨hij, O', ds, m', s4, s5, s6, s7, S', kp', hds⟩ := hW
  by_cases hi : i < ns.length
  · refine .inr ⟨by show i < (((ns.map V.int).length : Nat) : Int).toNat; simp; exact hi, fun σ3 H3 => ∃ O' ds m' s4 s5 s6 s7, Sim K P0.w P0.iw O H O' H3 σ3 (drE (.ref a) n ds (.sh (.int m')) s4 s5 s6 s7) ∧ Kp O H O' H3 ∧ ds.length ≤ 62 * (i + 1), fun σ3 H3 hN => ⟨j - 1, by omega, by omega, hN⟩, fun x H'' hy => ?_⟩
    obtain ⟨rfl, rfl⟩ := hy
    have Sa := S'.setSh (i := 4) (v := .int (0 + i)) (d := .int (0 + i)) (.int _) (by decide)
    have e0 : (σ'.set 4 (some (.int (0 + (i : Int)))))[0]? = some (some (.ref a)) := Sa.fxv rfl
    have hlen := S'.len
    have e4 : (σ'.set 4 (some (.int (0 + (i : Int)))))[4]? = some (some (.int (0 + i))) := List.getElem?_set_self (by rw [hlen]; simp [drE])
    have hat : atI (ns.map V.int) (0 + (i : Int)) = some (.int ns[i]) := by
      rw [Int.zero_add]
      exact atI_nat (by rw [List.getElem?_map, List.getElem?_eq_getElem hi]; rfl)
    refine ⟨.ref a, e0, .int (0 + i), e4, a, ns.map .int, 0 + i, .int ns[i], rfl, rfl, hq2 kp', hat, [], .int ns[i], .int ns[i], .int ns[i], rfl, (fun _ h => by cases h), .inl (.int _), rfl, fun v H1 le1 rp1 _ => ?_⟩
    cases rp1
    refine ⟨[], .int ns[i], .int ns[i], .int (if ns[i] < 0 then -ns[i] else ns[i]), rfl, (fun _ h => by cases h), .inl (.int _), rfl, fun v H3 le2 rp2 _ => ?_⟩
    cases rp2
    have ex2 : Ext P0.w H'' H3 := Ext.of_le S'.wok (le1.trans le2)
    have Sb := (Sa.ext ex2).setSh (i := 5) (v := .int (if ns[i] < 0 then -ns[i] else ns[i])) (d := .int (if ns[i] < 0 then -ns[i] else ns[i])) (.int _) (by decide)
    have kp3 := kp'.trans (S'.kp ex2)
    obtain ⟨ds', m2, s6', s7', e, hd2⟩ := dr_body (C := P0.C) (F := fun _ _ => none) (G := fun _ _ => none) (.ref a) n m' (0 + i) (if ns[i] < 0 then -ns[i] else ns[i]) s6 s7 ds (by unfold LINE; omega)
    refine tSs_of (F := fun _ _ => none) (G := fun _ _ => none) nn nn Sb e (fun O4 σ4 H4 S4 kp4 => ?_)
    exact ⟨O4, ds', m2, _, _, s6', s7', S4, kp3.trans kp4, by omega⟩
  · refine .inl ⟨by show (((ns.map V.int).length : Nat) : Int).toNat ≤ i; simp; omega, ?_⟩
    obtain ⟨ms, e⟩ := dr_post (C := P0.C) (F := fun _ _ => none) (G := fun _ _ => none) (.ref a) n m' s4 s5 s6 s7 ds hn (by unfold LINE; omega)
    refine tSs_of (F := fun _ _ => none) (G := fun _ _ => none) nn nn S' e (fun v H3 r ex3 => ?_)
    cases r with
    | @lst p xs _ hp rr =>
      have hx := rr.ints (ints_map ms)
      subst hx
      exact q ms p H3 (fun b o hbo => ex3.1 b o (fun z => by obtain ⟨t, ht, _⟩ := z; cases ht) hbo) (hid_le _ _ _ _ hp) (hid_out hp)
end
end PV

set_option maxHeartbeats 4000000
/-! PV: the law's own def. -/
namespace PV
open PySem PyProof.Rows L2 RZ

def spLaw (K : PySem.W.Frag) : Sp := fun vs H Q _ => ∃ (a : Addr) (ns : List Int), vs = [.ref a] ∧ SqL K H a (ns.map .int) ∧ ns.length ≤ 63 ∧ ∀ H', Q (.bl true) H'
def lawSc (sc : Scope) : Bool := isLoc sc "script" && isLoc sc "w" && (sc.names.lookup ("_law_draws" : Str) == some .globalImplicit)
section
variable {PG : Program} {W0 : World} {K : PySem.W.Frag} {mg : Str → Option Value} {base : Heap} {k : Nat}
theorem ok_law {C : Nat → Option D} {F' G' : Nat → List D → W D} {fs : List (Nat × Str × Nat × Bool)} {gl : List (Nat × Str)} {N : List Str} {iw : Nat} (m : ∀ t, Md PG W0 K mg base ⟨C, F', G', some t, iw⟩ fs gl k) {st : Stmt} {rest : List Stmt} {f : Addr} {fd : FuncData} {n : Int} {q1 q2 q3 q4 q5 q6 q7 q8 q9 q10 : Pos}
    (F : Fun K "law" "law" st f fd) (S : FnScope N ["script"] (defScope st)) (hN0 : N[0]? = some ("script" : Str)) (hNw : N[iw]? = some ("w" : Str)) (hn : 0 ≤ n ∧ n ≤ 1000)
    (hb : defBody st = .Assign [.Name "w" q1] (.Dict [some (.Constant (.str "draws") 0 q2), some (.Constant (.str "at") 0 q3)] [.Call (.Name "_law_draws" q4) [.Name "script" q5, .Constant (.int n) 0 q6] [] q7, .Constant (.int 0) 0 q8] q9) q10 :: rest)
    (hs : lawSc (defScope st) = true) {b : Ss} (hc : chkSs ⟨N, defScope st, defScope st, iw, fs, gl⟩ b rest = true)
    {fa : Addr} {fad : FuncData} (hga : mg "_law_draws" = some (.ref fa)) (hka : PySem.W.keepIn K (.ref fa) = true) (hba : Binds K fad ["script", "many"] []) (Fa : FnOk PG W0 K mg base CX0 k fa fad ["script", "many"] (spDraws K))
    (hlaw : exs wM C F' G' b (List.replicate N.length Slot.no) fun g => g = .rt (.bool true)) : FnOk PG W0 K mg base CX0 (k + 1) f fd ["script"] (spLaw K) := by
  unfold lawSc at hs
  simp only [Bool.and_eq_true, beq_iff_eq] at hs
  obtain ⟨⟨t1, t2⟩, t3⟩ := hs
  have t2 : Loc (defScope st) "w" := by
    unfold isLoc at t2
    rw [Bool.or_eq_true, beq_iff_eq, beq_iff_eq] at t2
    exact t2
  refine F.ok S (fun vs H Q E h => by obtain ⟨a, ns, rfl, _⟩ := h; rfl) (fun cdv A outer s H vs Q E hr h => ?_)
  obtain ⟨a, ns, rfl, hq, hl, q⟩ := h
  rw [hb]
  -- the dict that is made is known behind the first statement alone
  refine ⟨tSeq (tAsg (tDisp [(tC (.str "draws"), tCall (spDraws K) [] E0 (tCons (tVar 0) (tCons (tC (.int n)) tNil))), (tC (.str "at"), tC (.int 0))]) (gName iw)) (fun De σ H => ∃ t, tS ⟨C, F', G', some t, iw⟩ K (exs wM C F' G' b) De σ H), ?_, ?_⟩
  · refine pss_cons (ps_set S.nd hNw t2 (pe_disp (pps_cons pe_str (pe_call (dvs := []) (E := E0) Fa hr t3 hga hka hba .nil pass0 (pa_cons (pe_var hN0 (visB t1)) (pa_cons pe_int pa_nil))) (pps_cons pe_str pe_int pps_nil)) rfl rfl (by simp) (by simp)) rfl (.inl rfl)) ?_
    exact ⟨fun pins s' σ H1 De I h => by
      obtain ⟨t, h⟩ := h
      exact (sSs ((m t).gd S hr) S.kind rfl PassesOwn.never b hc).run pins s' σ H1 De I h⟩
  · have hiw : iw < N.length := (List.getElem?_eq_some_iff.mp hNw).1
    have h0N : 0 < N.length := (List.getElem?_eq_some_iff.mp hN0).1
    have hst : (L2.start N [.ref a]).length = N.length := start_len (by simp; omega)
    intro p hp
    have e1 : (upd H p (.dK [])) p = some (.dK []) := by simp [upd]
    refine ⟨.ref a, start_get rfl, ?_⟩
    refine ⟨a, n, ns, [p], rfl, hn, hl, fun x hx => ?_, ?_, fun ms pd H1 le hpd hno => ?_⟩
    · have : x = p := by simpa using hx
      subst this
      rw [e1]
      simp
    · refine Le.sl (fun x o h => ?_) hq
      have ne : x ≠ p := fun z => by subst z; rw [hp] at h; cases h
      exact hid_in (by simpa using ne) (by rw [upd_ne ne]; exact h)
    · have hH1 : H1 p = some (.dK []) := le _ _ e1
      refine ⟨hH1, [(.inr "draws", .ref pd), (.inr "at", .int 0)], rfl, by simp, ?_⟩
      have nda : ¬ (Str.ofString "draws" = Str.ofString "at") := by decide
      have em : mergeK [] [(Sum.inr (Str.ofString "draws"), V.ref pd), (Sum.inr (Str.ofString "at"), V.int 0)] = [(Sum.inr (Str.ofString "draws"), V.ref pd), (Sum.inr (Str.ofString "at"), V.int 0)] := by
        simp [mergeK, putK, nda]
      rw [em]
      generalize hH2 : upd H1 p (.dK [(Sum.inr (Str.ofString "draws"), V.ref pd), (Sum.inr (Str.ofString "at"), V.int 0)]) = H2
      have npd : pd ≠ p := fun z => hno (by simp [z])
      have w1 : H2 p = some (.dK [(Sum.inr (Str.ofString "draws"), V.ref pd), (Sum.inr (Str.ofString "at"), V.int 0)]) := by rw [← hH2]; simp [upd]
      have w2 : H2 pd = some (.lst (ms.map .int)) := by rw [← hH2, upd_ne npd]; exact hpd
      have wk : WOk (some (p, pd, ms)) H2 := ⟨0, by omega, w1, w2⟩
      refine ⟨(p, pd, ms), [p], H2, [p], List.replicate N.length Slot.no, _, ⟨by simp [hst], fun i sl h => ?_, fun i j d d' x h => ?_, fun x hx => ?_, fun x hx => ?_, fun _ h => h, fun _ h => .inl h, Ext.refl wk, wk, fun x hx => ?_, fun t ht => ?_, fun i d x h => ?_⟩, hlaw, fun g hg => ?_⟩
      · have := (List.mem_replicate.mp (List.mem_of_getElem? h)).2
        subst this
        trivial
      · have := (List.mem_replicate.mp (List.mem_of_getElem? h)).2
        cases this
      · have : x = p := by simpa using hx
        subst this
        rw [w1]
        simp
      · have : x = p := by simpa using hx
        subst this
        rw [w1]
        simp
      · obtain ⟨t, ht, rfl⟩ := hx
        cases ht
        simp
      · cases ht
        refine ⟨List.getElem?_set_self (by rw [hst]; exact hiw), ?_⟩
        rw [List.getElem?_replicate, if_pos hiw]
      · have := (List.mem_replicate.mp (List.mem_of_getElem? h)).2
        cases this
      · subst hg
        intro v H' r _
        cases r
        exact q H'
end
end PV

set_option maxHeartbeats 4000000
/-! PV: the table of a law's defs; data of a known make. -/
namespace PV
open PySem PyProof.Rows L2 RZ

/-- the def x stands behind the top -/
def Has (K : PySem.W.Frag) (mg : Str → Option Value) (x : Str) (st : Stmt) : Prop := ∃ a fd, mg x = some (.ref a) ∧ PySem.W.keepIn K (.ref a) = true ∧ Fun K x x st a fd
/-- .. and keeps a promise -/
def DefOk (PG : Program) (W0 : World) (K : PySem.W.Frag) (mg : Str → Option Value) (base : Heap) (k : Nat) (x : Str) (sp : Sp) : Prop := ∃ a fd ps, mg x = some (.ref a) ∧ PySem.W.keepIn K (.ref a) = true ∧ Binds K fd ps [] ∧ FnOk PG W0 K mg base CX0 k a fd ps sp
/-- how arguments bind -/
def Bnd (x : Str) (st : Stmt) (ps : List Str) : Prop := ∀ (kV doc pm : Value) (an : Option Addr) (cdv ct : Value) (us : List Value), us.length = ps.length → bindArgs (PySem.W.fnOf x x (defArgs st) (defBody st) (defScope st) .none kV doc pm an cdv ct) ⟨us, []⟩ = pure (ps.zip us)
def ofO (o : Option D) : W D := fun R => ∃ d, o = some d ∧ R d
theorem gv_ofO (o : Option D) : Gv o (ofO o) := fun a h Q q => ⟨a, h, q⟩
section
variable {PG : Program} {W0 : World} {K : PySem.W.Frag} {mg : Str → Option Value} {base : Heap} {k j : Nat} {x : Str} {st : Stmt} {N ps : List Str}
theorem DefOk.mono {sp : Sp} (h : DefOk PG W0 K mg base j x sp) (le : j ≤ k) : DefOk PG W0 K mg base k x sp := by
  obtain ⟨a, fd, ps, h1, h2, h3, h4⟩ := h
  exact ⟨a, fd, ps, h1, h2, h3, h4.mono le⟩
theorem mk_pure {C : Nat → Option D} {T : Nat → List D → Option D} {GG : Nat → List D → W D} {fs : List (Nat × Str × Nat × Bool)} {gl : List (Nat × Str)} (h : Has K mg x st) (hbd : Bnd x st ps) (m : Md PG W0 K mg base ⟨C, fun n ds => ofO (T n ds), GG, none, 1000⟩ fs gl k) (S : FnScope N ps (defScope st)) (hps : ps.length ≤ N.length) {b : Ss}
    (hc : chkSs ⟨N, defScope st, defScope st, 1000, fs, gl⟩ b (defBody st) = true) {i : Nat} (hr : ∀ ds d, T i ds = some d → run optM C T (fun _ _ => none) N.length b ds = some d) : DefOk PG W0 K mg base (k + 1) x (spF ps.length (fun ds => ofO (T i ds)) K) := by
  obtain ⟨a, fd, h1, h2, F⟩ := h
  refine ⟨a, fd, ps, h1, h2, F.binds hbd, fn_pure m rfl F S hps hc fun ds R q => ?_⟩
  obtain ⟨d, hd, q⟩ := q
  exact gv_run (fun n ds => gv_ofO _) (fun n ds => gv_none) N.length b ds d (hr ds d hd) R q
theorem mk_w {C : Nat → Option D} {F' GG : Nat → List D → W D} {fs : List (Nat × Str × Nat × Bool)} {gl : List (Nat × Str)} (h : Has K mg x st) (hbd : Bnd x st ps) (m : ∀ t, Md PG W0 K mg base ⟨C, F', GG, some t, 0⟩ fs gl k) (S : FnScope N ps (defScope st)) (hps : ps.length ≤ N.length) {b : Ss}
    (hc : chkSs ⟨N, defScope st, defScope st, 0, fs, gl⟩ b (defBody st) = true) {f' : List D → W D} (hr : ∀ ds R, f' ds R → exs wM C F' GG b (.no :: (ds.map Slot.sh ++ List.replicate (N.length - (1 + ds.length)) Slot.no)) fun f => (match f with
    | .nx _ => wM.pure PyData.none
    | .rt d => wM.pure d
    | .bk _ => wM.fail) R) : DefOk PG W0 K mg base (k + 1) x (spG ps.length f' K) := by
  obtain ⟨a, fd, h1, h2, F⟩ := h
  exact ⟨a, fd, ps, h1, h2, F.binds hbd, fn_w m F S hps hc hr⟩
end

/-! ### data of a known make -/
structure Cod (α : Type) where
  enc : α → D
  dec : D → Option α
  he : ∀ a, dec (enc a) = some a
  hd : ∀ d a, dec d = some a → enc a = d
def cInt : Cod Int := ⟨.int, int?, fun _ => rfl, fun d a h => (int_some h).symm⟩
def cBool : Cod Bool := ⟨.bool, bool?, fun _ => rfl, fun d a h => (bool_some h).symm⟩
def decAll {α : Type} (f : D → Option α) : List D → Option (List α)
  | [] => some []
  | d :: ds => (f d).bind fun a => (decAll f ds).map (a :: ·)
theorem decAll_enc {α : Type} (c : Cod α) : ∀ xs : List α, decAll c.dec (xs.map c.enc) = some xs
  | [] => rfl
  | x :: xs => by
    rw [List.map_cons]
    unfold decAll
    rw [c.he, decAll_enc c xs]
    rfl
theorem decAll_dec {α : Type} (c : Cod α) : ∀ (ds : List D) (xs : List α), decAll c.dec ds = some xs → xs.map c.enc = ds
  | [], xs, h => by
    cases h
    rfl
  | d :: ds, xs, h => by
    unfold decAll at h
    cases e : c.dec d with
    | none => rw [e] at h; cases h
    | some a =>
      rw [e] at h
      cases e2 : decAll c.dec ds with
      | none => rw [e2] at h; cases h
      | some ys =>
        rw [e2] at h
        cases h
        rw [List.map_cons, c.hd d a e, decAll_dec c ds ys e2]
def cL {α : Type} (c : Cod α) : Cod (List α) where
  enc xs := .list (xs.map c.enc)
  dec
    | .list ds => decAll c.dec ds
    | _ => none
  he xs := decAll_enc c xs
  hd d xs h := by
    cases d <;> first | cases h | exact congrArg PyData.list (decAll_dec c _ _ h)
def cT {α : Type} (c : Cod α) : Cod (List α) where
  enc xs := .tuple (xs.map c.enc)
  dec
    | .tuple ds => decAll c.dec ds
    | _ => none
  he xs := decAll_enc c xs
  hd d xs h := by
    cases d <;> first | cases h | exact congrArg PyData.tuple (decAll_dec c _ _ h)
def c2 {α β : Type} (a : Cod α) (b : Cod β) : Cod (α × β) where
  enc p := .tuple [a.enc p.1, b.enc p.2]
  dec
    | .tuple [x, y] => (a.dec x).bind fun u => (b.dec y).map fun v => (u, v)
    | _ => none
  he p := by simp [a.he, b.he]
  hd d p h := by
    split at h
    · rename_i x y
      cases e1 : a.dec x with
      | none => rw [e1] at h; cases h
      | some u =>
        rw [e1] at h
        cases e2 : b.dec y with
        | none => rw [e2] at h; cases h
        | some v =>
          rw [e2] at h
          cases h
          rw [← a.hd _ _ e1, ← b.hd _ _ e2]
    · cases h
def c3 {α β γ : Type} (a : Cod α) (b : Cod β) (c : Cod γ) : Cod (α × β × γ) where
  enc p := .tuple [a.enc p.1, b.enc p.2.1, c.enc p.2.2]
  dec
    | .tuple [x, y, z] => (a.dec x).bind fun u => (b.dec y).bind fun v => (c.dec z).map fun w => (u, v, w)
    | _ => none
  he p := by simp [a.he, b.he, c.he]
  hd d p h := by
    split at h
    · rename_i x y z
      cases e1 : a.dec x with
      | none => rw [e1] at h; cases h
      | some u =>
        rw [e1] at h
        cases e2 : b.dec y with
        | none => rw [e2] at h; cases h
        | some v =>
          rw [e2] at h
          cases e3 : c.dec z with
          | none => rw [e3] at h; cases h
          | some w =>
            rw [e3] at h
            cases h
            rw [← a.hd _ _ e1, ← b.hd _ _ e2, ← c.hd _ _ e3]
    · cases h
end PV

set_option maxHeartbeats 4000000
/-! PV: helps for reckoning on data of a known make. -/
namespace PV
open PySem

def cNat : Cod Nat where
  enc n := .int n
  dec
    | .int i => if 0 ≤ i then some i.toNat else none
    | _ => none
  he n := by simp
  hd d n h := by
    cases d <;> simp at h
    obtain ⟨h1, h2⟩ := h
    subst h2
    simp [Int.toNat_of_nonneg h1]
@[simp] theorem e_int (i : Int) : cInt.enc i = .int i := rfl
@[simp] theorem e_nat (i : Nat) : cNat.enc i = .int i := rfl
@[simp] theorem e_bool (i : Bool) : cBool.enc i = .bool i := rfl
@[simp] theorem e_L {α : Type} (c : Cod α) (xs : List α) : (cL c).enc xs = .list (xs.map c.enc) := rfl
@[simp] theorem e_T {α : Type} (c : Cod α) (xs : List α) : (cT c).enc xs = .tuple (xs.map c.enc) := rfl
@[simp] theorem e_2 {α β : Type} (a : Cod α) (b : Cod β) (p : α × β) : (c2 a b).enc p = .tuple [a.enc p.1, b.enc p.2] := rfl
@[simp] theorem e_3 {α β γ : Type} (a : Cod α) (b : Cod β) (c : Cod γ) (p : α × β × γ) : (c3 a b c).enc p = .tuple [a.enc p.1, b.enc p.2.1, c.enc p.2.2] := rfl

@[simp] theorem at1_0 {α : Type} {x : α} : L2.atI [x] 0 = some x := rfl
@[simp] theorem at2_0 {α : Type} {x y : α} : L2.atI [x, y] 0 = some x := rfl
@[simp] theorem at2_1 {α : Type} {x y : α} : L2.atI [x, y] 1 = some y := rfl
@[simp] theorem at3_0 {α : Type} {x y z : α} : L2.atI [x, y, z] 0 = some x := rfl
@[simp] theorem at3_1 {α : Type} {x y z : α} : L2.atI [x, y, z] 1 = some y := rfl
@[simp] theorem at3_2 {α : Type} {x y z : α} : L2.atI [x, y, z] 2 = some z := rfl
@[simp] theorem at_last {α : Type} {xs : List α} {x : α} : L2.atI (xs ++ [x]) (-1) = some x := L2.atI_last _ _
@[simp] theorem dPop_app {xs : List D} {x : D} : dPop (.list (xs ++ [x])) = some (x, .list xs) := by simp [dPop]
@[simp] theorem forL_nil {g : D → Env → Option Fl} {ρ0 ρ : Env} : forL optM g ρ0 [] ρ = some (.nx ρ) := by unfold forL; rfl
@[simp] theorem rng_self {i : Int} : rng i i = [] := by simp [rng]
theorem atI_get {α : Type} {xs : List α} {i : Nat} (h : i < xs.length) : L2.atI xs (i : Int) = some xs[i] := L2.atI_nat (List.getElem?_eq_getElem h)
theorem cut_nat {α : Type} (xs : List α) (a b : Nat) : cut xs (some (a : Int)) (some (b : Int)) = (xs.drop a).take (b - a) := by
  unfold cut
  rw [HT.sIx_nat, HT.sIx_nat]
  by_cases h : a ≤ xs.length
  · rw [Nat.min_eq_left h]
    by_cases h2 : b ≤ xs.length
    · rw [Nat.min_eq_left h2]
    · have e : min b xs.length = xs.length := Nat.min_eq_right (by omega)
      rw [e, List.take_of_length_le (by simp), List.take_of_length_le (by simp; omega)]
  · have e : min a xs.length = xs.length := Nat.min_eq_right (by omega)
    rw [e, List.drop_of_length_le (Nat.le_refl _), List.drop_of_length_le (by omega)]
    simp
theorem cut_from {α : Type} (xs : List α) (a : Nat) : cut xs (some (a : Int)) none = xs.drop a := by
  unfold cut
  rw [HT.sIx_nat, HT.sIx_none]
  by_cases h : a ≤ xs.length
  · rw [Nat.min_eq_left h, List.take_of_length_le (by simp)]
  · have e : min a xs.length = xs.length := Nat.min_eq_right (by omega)
    rw [e, List.drop_of_length_le (Nat.le_refl _), List.drop_of_length_le (by omega)]
    simp
theorem cut_to {α : Type} (xs : List α) (b : Nat) : cut xs none (some (b : Int)) = xs.take b := by
  unfold cut
  rw [HT.sIx_nat, HT.sIx_none]
  simp
theorem compL_enc {α : Type} {g : D → Option (Option D)} {xs : List α} {e : α → D} {f : α → Option D} (h : ∀ x ∈ xs, g (e x) = some (f x)) : compL optM g (xs.map e) = some (xs.filterMap f) := by
  induction xs with
  | nil => rfl
  | cons x xs ih =>
    rw [List.map_cons]
    unfold compL
    rw [o_bind, h x (by simp), ih fun y hy => h y (by simp [hy])]
    cases hf : f x <;> simp [hf]
theorem compL_all {α : Type} {g : D → Option (Option D)} {xs : List α} {e : α → D} {f : α → D} (h : ∀ x ∈ xs, g (e x) = some (some (f x))) : compL optM g (xs.map e) = some (xs.map f) := by
  rw [compL_enc (f := fun x => some (f x)) h]
  simp
theorem compL_fil {α : Type} {g : D → Option (Option D)} {xs : List α} {e : α → D} {f : α → D} {p : α → Bool} (h : ∀ x ∈ xs, g (e x) = some (if p x = true then some (f x) else none)) : compL optM g (xs.map e) = some ((xs.filter p).map f) := by
  rw [compL_enc h]
  congr 1
  clear h
  induction xs with
  | nil => rfl
  | cons x xs ih =>
    by_cases hp : p x = true
    · rw [List.filter_cons_of_pos hp, List.map_cons, List.filterMap_cons_some (by rw [if_pos hp]), ih]
    · rw [List.filter_cons_of_neg hp, List.filterMap_cons_none (by rw [if_neg hp]), ih]
theorem forL_fold {α τ : Type} {g : D → Env → Option Fl} {ρ0 : Env} (e : α → D) (st : τ → Env) (step : τ → α → τ) (I : τ → List α → Prop)
    (h : ∀ s x xs, I s (x :: xs) → (∃ ρ', g (e x) (st s) = some (.nx ρ') ∧ msk ρ0 ρ' = st (step s x)) ∧ I (step s x) xs) : ∀ xs s, I s xs → forL optM g ρ0 (xs.map e) (st s) = some (.nx (st (xs.foldl step s)))
  | [], s, _ => by unfold forL; rfl
  | x :: xs, s, hI => by
    obtain ⟨⟨ρ', h1, h2⟩, h3⟩ := h s x xs hI
    rw [List.map_cons]
    unfold forL
    rw [o_bind, h1]
    show forL optM g ρ0 (xs.map e) (msk ρ0 ρ') = _
    rw [h2]
    exact forL_fold e st step I h xs (step s x) h3
theorem rng_map (i j : Int) : rng i j = (List.range (j - i).toNat).map fun (k : Nat) => .int (i + k) := rfl
/-- a while by its steps -/
theorem whO_go {step : Env → Option (Env ⊕ Fl)} {τ : Type} (st : τ → Env) (μ : τ → Nat) (nxt : τ → τ) (c : τ → Bool) (I : τ → Prop) (h : ∀ s, I s → (c s = true → step (st s) = some (.inl (st (nxt s))) ∧ I (nxt s) ∧ μ (nxt s) < μ s) ∧ (c s = false → step (st s) = some (.inr (.nx (st s))))) :
    ∀ (n : Nat) (s : τ), μ s ≤ n → I s → ∃ s', whO step (st s) = some (.nx (st s')) ∧ I s' ∧ c s' = false
  | n, s, hn, hI => by
    cases hc : c s with
    | false => exact ⟨s, whO_end ((h s hI).2 hc), hI, hc⟩
    | true =>
      obtain ⟨h1, h2, h3⟩ := (h s hI).1 hc
      cases n with
      | zero => omega
      | succ n =>
        obtain ⟨s', e, q⟩ := whO_go st μ nxt c I h n (nxt s) (by omega) h2
        exact ⟨s', by rw [whO_next h1]; exact e, q⟩
def loopN {τ : Type} (nxt : τ → τ) (c : τ → Bool) : Nat → τ → τ
  | 0, s => s
  | n + 1, s => if c s = true then loopN nxt c n (nxt s) else s
theorem whO_loop {step : Env → Option (Env ⊕ Fl)} {τ : Type} (st : τ → Env) (μ : τ → Nat) (nxt : τ → τ) (c : τ → Bool) (I : τ → Prop) (h : ∀ s, I s → (c s = true → step (st s) = some (.inl (st (nxt s))) ∧ I (nxt s) ∧ μ (nxt s) < μ s) ∧ (c s = false → step (st s) = some (.inr (.nx (st s))))) :
    ∀ (n : Nat) (s : τ), μ s ≤ n → I s → whO step (st s) = some (.nx (st (loopN nxt c n s))) ∧ I (loopN nxt c n s) ∧ c (loopN nxt c n s) = false
  | n, s, hn, hI => by
    cases hc : c s with
    | false =>
      have e : loopN nxt c n s = s := by
        cases n with
        | zero => rfl
        | succ n => simp [loopN, hc]
      rw [e]
      exact ⟨whO_end ((h s hI).2 hc), hI, hc⟩
    | true =>
      obtain ⟨h1, h2, h3⟩ := (h s hI).1 hc
      cases n with
      | zero => omega
      | succ n =>
        have e : loopN nxt c (n + 1) s = loopN nxt c n (nxt s) := by simp [loopN, hc]
        rw [e, whO_next h1]
        exact whO_loop st μ nxt c I h n (nxt s) (by omega) h2
theorem loopN_ind {τ : Type} {nxt : τ → τ} {c : τ → Bool} (J : τ → Prop) (h : ∀ s, J s → c s = true → J (nxt s)) : ∀ (n : Nat) (s : τ), J s → J (loopN nxt c n s)
  | 0, s, hJ => hJ
  | n + 1, s, hJ => by
    unfold loopN
    by_cases hc : c s = true
    · rw [if_pos hc]
      exact loopN_ind J h n (nxt s) (h s hJ hc)
    · rw [if_neg hc]
      exact hJ
theorem run_of {C : Nat → Option D} {F G : Nat → List D → Option D} {n : Nat} {b : Ss} {args : List D} {d : D} (h : exs optM C F G b (args.map Slot.sh ++ List.replicate (n - args.length) Slot.no) = some (.rt d)) : run optM C F G n b args = some d := by
  unfold run
  rw [o_bind, h]
  rfl
end PV

set_option maxHeartbeats 4000000
/-! PV: data of a known make compared, least, sorted. -/
namespace PV
open PySem PySem.W PyProof.Rows

mutual
theorem shal_mono : ∀ (d : D) {n m : Nat}, n ≤ m → shal n d = true → shal m d = true
  | .none, n, m, _, _ => by cases m <;> rfl
  | .bool _, n, m, _, _ => by cases m <;> rfl
  | .int _, n, m, _, _ => by cases m <;> rfl
  | .str _, n, m, _, _ => by cases m <;> rfl
  | .list xs, n, m, h, hs => by
    cases n with
    | zero => cases hs
    | succ n =>
      cases m with
      | zero => omega
      | succ m => exact shals_mono xs (by omega) hs
  | .tuple xs, n, m, h, hs => by
    cases n with
    | zero => cases hs
    | succ n =>
      cases m with
      | zero => omega
      | succ m => exact shals_mono xs (by omega) hs
  | .dict _, n, m, _, hs => by cases n <;> cases hs
theorem shals_mono : ∀ (xs : List D) {n m : Nat}, n ≤ m → xs.all (shal n) = true → xs.all (shal m) = true
  | [], _, _, _, _ => rfl
  | x :: xs, n, m, h, hs => by
    rw [List.all_cons, Bool.and_eq_true] at hs ⊢
    exact ⟨shal_mono x h hs.1, shals_mono xs h hs.2⟩
end
structure CodOk {α : Type} (c : Cod α) (n : Nat) : Prop where
  sh : ∀ a, shal n (c.enc a) = true
  eqv : ∀ a b, PyData.eqv (c.enc a) (c.enc b) = true ↔ a = b
  al : ∀ a b, alike (c.enc a) (c.enc b) = true
  nn : ∀ a, isN (c.enc a) = false
theorem enc_inj {α : Type} (c : Cod α) {a b : α} (h : c.enc a = c.enc b) : a = b := by
  have := c.he a
  rw [h, c.he b] at this
  exact (Option.some.inj this).symm
theorem ok_int : CodOk cInt 0 := ⟨fun _ => rfl, fun a b => by simp [PyData.eqv], fun a b => by simp [alike], fun _ => rfl⟩
theorem ok_nat : CodOk cNat 0 := ⟨fun _ => rfl, fun a b => by simp [PyData.eqv]; omega, fun a b => by simp [alike], fun _ => rfl⟩
theorem ok_bool : CodOk cBool 0 := ⟨fun _ => rfl, fun a b => by simp [PyData.eqv], fun a b => by simp [alike], fun _ => rfl⟩
section
variable {α β γ : Type} {c : Cod α} {c' : Cod β} {c'' : Cod γ} {n m k : Nat}
theorem CodOk.all (h : CodOk c n) (xs : List α) : (xs.map c.enc).all (shal n) = true := by
  rw [List.all_eq_true]
  intro d hd
  obtain ⟨a, _, rfl⟩ := List.mem_map.mp hd
  exact h.sh a
theorem CodOk.eqvs (h : CodOk c n) : ∀ xs ys : List α, PyData.eqvAll (xs.map c.enc) (ys.map c.enc) = true ↔ xs = ys
  | [], [] => by simp [PyData.eqvAll]
  | [], _ :: _ => by simp [PyData.eqvAll]
  | _ :: _, [] => by simp [PyData.eqvAll]
  | x :: xs, y :: ys => by
    rw [List.map_cons, List.map_cons, PyData.eqvAll, Bool.and_eq_true, h.eqv, h.eqvs xs ys]
    simp
theorem CodOk.als (h : CodOk c n) : ∀ xs ys : List α, alikeAll (xs.map c.enc) (ys.map c.enc) = true
  | [], _ => by simp [alikeAll]
  | _ :: _, [] => by simp [alikeAll]
  | x :: xs, y :: ys => by
    rw [List.map_cons, List.map_cons, alikeAll, h.al, h.als xs ys]
    rfl
theorem ok_L (h : CodOk c n) : CodOk (cL c) (n + 1) := ⟨fun a => h.all a, fun a b => by rw [e_L, e_L, PyData.eqv]; exact h.eqvs a b, fun a b => by rw [e_L, e_L, alike]; exact h.als a b, fun _ => rfl⟩
theorem ok_T (h : CodOk c n) : CodOk (cT c) (n + 1) := ⟨fun a => h.all a, fun a b => by rw [e_T, e_T, PyData.eqv]; exact h.eqvs a b, fun a b => by rw [e_T, e_T, alike]; exact h.als a b, fun _ => rfl⟩
theorem ok_2 (h : CodOk c n) (h' : CodOk c' m) (e1 : n ≤ k) (e2 : m ≤ k) : CodOk (c2 c c') (k + 1) where
  sh a := by
    show [c.enc a.1, c'.enc a.2].all (shal k) = true
    simp [shal_mono _ e1 (h.sh a.1), shal_mono _ e2 (h'.sh a.2)]
  eqv a b := by
    rw [e_2, e_2, PyData.eqv, PyData.eqvAll, PyData.eqvAll, PyData.eqvAll]
    simp [h.eqv, h'.eqv, Prod.ext_iff]
  al a b := by
    rw [e_2, e_2, alike, alikeAll, alikeAll, alikeAll, h.al, h'.al]
    rfl
  nn a := rfl
theorem ok_3 {j : Nat} (h : CodOk c n) (h' : CodOk c' m) (h'' : CodOk c'' j) (e1 : n ≤ k) (e2 : m ≤ k) (e3 : j ≤ k) : CodOk (c3 c c' c'') (k + 1) where
  sh a := by
    show [c.enc a.1, c'.enc a.2.1, c''.enc a.2.2].all (shal k) = true
    simp [shal_mono _ e1 (h.sh a.1), shal_mono _ e2 (h'.sh a.2.1), shal_mono _ e3 (h''.sh a.2.2)]
  eqv a b := by
    rw [e_3, e_3, PyData.eqv, PyData.eqvAll, PyData.eqvAll, PyData.eqvAll, PyData.eqvAll]
    simp [h.eqv, h'.eqv, h''.eqv, Prod.ext_iff]
  al a b := by
    rw [e_3, e_3, alike, alikeAll, alikeAll, alikeAll, alikeAll, h.al, h'.al, h''.al]
    rfl
  nn a := rfl
theorem CodOk.sh20 (h : CodOk c n) (hn : n ≤ 20) (a : α) : PV.sh (c.enc a) = true := shal_mono _ hn (h.sh a)
theorem CodOk.shs20 (h : CodOk c n) (hn : n ≤ 20) (xs : List α) : shs (xs.map c.enc) = true := shals_mono _ hn (h.all xs)
theorem CodOk.eqd [DecidableEq α] (h : CodOk c n) (a b : α) : PyData.eqv (c.enc a) (c.enc b) = decide (a = b) := by
  have := h.eqv a b
  by_cases e : a = b
  · rw [decide_eq_true e, this.mpr e]
  · rw [decide_eq_false e]
    cases q : PyData.eqv (c.enc a) (c.enc b) with
    | false => rfl
    | true => exact absurd (this.mp q) e
theorem d_eq [DecidableEq α] (h : CodOk c n) (hn : n ≤ 20) (a b : α) : dCmp .eq (c.enc a) (c.enc b) = some (decide (a = b)) := by
  show (if (sh (c.enc a) && sh (c.enc b)) = true then some (PyData.eqv (c.enc a) (c.enc b)) else none) = _
  rw [h.sh20 hn, h.sh20 hn, h.eqd]
  rfl
theorem d_ne [DecidableEq α] (h : CodOk c n) (hn : n ≤ 20) (a b : α) : dCmp .ne (c.enc a) (c.enc b) = some (!decide (a = b)) := by
  show (if (sh (c.enc a) && sh (c.enc b)) = true then some (!PyData.eqv (c.enc a) (c.enc b)) else none) = _
  rw [h.sh20 hn, h.sh20 hn, h.eqd]
  rfl
/-! the order -/
theorem lt_anti (h : CodOk c n) {a b : α} (h1 : dataLt (c.enc a) (c.enc b) = false) (h2 : dataLt (c.enc b) (c.enc a) = false) : a = b := by
  have e := lex_total (O := itemOrd) _ _ h1 h2
  refine (h.eqv a b).mp ?_
  cases q : PyData.eqv (c.enc a) (c.enc b) with
  | true => rfl
  | false =>
    have z := (toks_eqv _ _ (h.al a b)).2 q [] [.inl 0]
    rw [e, List.append_nil] at z
    have z2 : ∀ l : List (Int ⊕ List Nat), PyProof.Rows.lexLt itemOrd l (l ++ [.inl 0]) = true := fun l => by
      induction l with
      | nil => rfl
      | cons x l ih =>
        rw [List.cons_append, lex_self]
        exact ih
    rw [z2, lex_irrefl] at z
    cases z
theorem minD_mem (x : D) : ∀ xs : List D, minD x xs ∈ x :: xs := fun xs => by
  unfold minD
  induction xs generalizing x with
  | nil => simp
  | cons y ys ih =>
    rw [List.foldl_cons]
    by_cases h : dataLt y x = true
    · rw [if_pos h]
      have := ih y
      simp only [List.mem_cons] at this ⊢
      rcases this with h | h
      · exact .inr (.inl h)
      · exact .inr (.inr h)
    · rw [if_neg h]
      have := ih x
      simp only [List.mem_cons] at this ⊢
      rcases this with h | h
      · exact .inl h
      · exact .inr (.inr h)
theorem minD_le (x : D) : ∀ xs : List D, ∀ y ∈ x :: xs, dataLt y (minD x xs) = false := fun xs => by
  unfold minD
  induction xs generalizing x with
  | nil =>
    intro y hy
    have : y = x := by simpa using hy
    subst this
    exact dataLt_self y
  | cons z zs ih =>
    intro y hy
    rw [List.foldl_cons]
    have key : ∀ w, (∀ v, v = x ∨ v = z → dataLt v w = false) → dataLt y (List.foldl (fun a y => if dataLt y a = true then y else a) w zs) = false := fun w hw => by
      have hI := ih w
      rcases List.mem_cons.mp hy with e | hy
      · subst e
        have h1 := hw y (.inl rfl)
        have h2 := hI w (by simp)
        cases q : dataLt y (List.foldl (fun a y => if dataLt y a = true then y else a) w zs) with
        | false => rfl
        | true =>
          rcases lex_negTrans (O := itemOrd) _ (keyToks w) _ q with r | r
          · exact absurd (show dataLt y w = true from r) (by rw [h1]; simp)
          · exact absurd (show dataLt w _ = true from r) (by rw [h2]; simp)
      · rcases List.mem_cons.mp hy with e | hy
        · subst e
          have h1 := hw y (.inr rfl)
          have h2 := hI w (by simp)
          cases q : dataLt y (List.foldl (fun a y => if dataLt y a = true then y else a) w zs) with
          | false => rfl
          | true =>
            rcases lex_negTrans (O := itemOrd) _ (keyToks w) _ q with r | r
            · exact absurd (show dataLt y w = true from r) (by rw [h1]; simp)
            · exact absurd (show dataLt w _ = true from r) (by rw [h2]; simp)
        · exact hI y (by simp [hy])
    by_cases h : dataLt z x = true
    · rw [if_pos h]
      refine key z fun v hv => ?_
      rcases hv with rfl | rfl
      · cases q : dataLt v z with
        | false => rfl
        | true =>
          have := lex_trans (O := itemOrd) _ _ _ q h
          rw [lex_irrefl] at this
          cases this
      · exact dataLt_self v
    · rw [if_neg h]
      refine key x fun v hv => ?_
      rcases hv with rfl | rfl
      · exact dataLt_self v
      · simpa using h
theorem dMin_of (h : CodOk c n) (hn : n ≤ 20) {l : List α} (ne : l ≠ []) : ∃ m ∈ l, dMin (l.map c.enc) = some (c.enc m) ∧ ∀ a ∈ l, dataLt (c.enc a) (c.enc m) = false := by
  cases l with
  | nil => exact absurd rfl ne
  | cons x xs =>
    have hm := minD_mem (c.enc x) (xs.map c.enc)
    rw [← List.map_cons] at hm
    obtain ⟨m, hmem, e⟩ := List.mem_map.mp hm
    refine ⟨m, hmem, ?_, fun a ha => ?_⟩
    · have h1 : shs (c.enc x :: xs.map c.enc) = true := h.shs20 hn (x :: xs)
      have h2 : allAlike (c.enc x :: xs.map c.enc) = true := by
        unfold allAlike
        rw [← List.map_cons, List.all_eq_true]
        intro d hd
        rw [List.all_eq_true]
        intro d' hd'
        obtain ⟨a, _, rfl⟩ := List.mem_map.mp hd
        obtain ⟨b, _, rfl⟩ := List.mem_map.mp hd'
        exact h.al a b
      have h3 : (c.enc x :: xs.map c.enc).all (fun d => !isN d) = true := by
        rw [← List.map_cons, List.all_eq_true]
        intro d hd
        obtain ⟨a, _, rfl⟩ := List.mem_map.mp hd
        rw [h.nn]
        rfl
      rw [List.map_cons]
      show (if (shs (c.enc x :: xs.map c.enc) && (allAlike (c.enc x :: xs.map c.enc) && (c.enc x :: xs.map c.enc).all (fun d => !isN d))) = true then some (minD (c.enc x) (xs.map c.enc)) else none) = _
      rw [h1, h2, h3, e]
      rfl
    · rw [e]
      exact minD_le _ _ _ (by rw [← List.map_cons]; exact List.mem_map_of_mem ha)
/-- the least of lists with the same items -/
theorem dMin_same (h : CodOk c n) (hn : n ≤ 20) {l l' : List α} (ne : l ≠ []) (hs : ∀ a, a ∈ l ↔ a ∈ l') : ∃ m ∈ l, dMin (l.map c.enc) = some (c.enc m) ∧ dMin (l'.map c.enc) = some (c.enc m) := by
  obtain ⟨m, h1, h2, h3⟩ := dMin_of h hn ne
  have ne' : l' ≠ [] := fun e => by
    have := (hs m).mp h1
    rw [e] at this
    simp at this
  obtain ⟨m', k1, k2, k3⟩ := dMin_of h hn ne'
  have e : m = m' := lt_anti h (k3 m ((hs m).mp h1)) (h3 m' ((hs m').mpr k1))
  subst e
  exact ⟨m, h1, h2, k2⟩
/-- what is sorted: the same items -/
theorem dSort_of (h : CodOk c n) (hn : n ≤ 20) {l : List α} (hs : l.length ≤ 1 ∨ sortable (l.map c.enc) = true) : ∃ l' : List α, dSort (l.map c.enc) = some (l'.map c.enc) ∧ l'.Perm l := by
  unfold dSort
  have h1 : shs (l.map c.enc) = true := h.shs20 hn l
  have h3 : (l.map c.enc).all (fun d => !isN d) = true := by
    rw [List.all_eq_true]
    intro d hd
    obtain ⟨a, _, rfl⟩ := List.mem_map.mp hd
    rw [h.nn]
    rfl
  by_cases hl : l.length ≤ 1
  · refine ⟨l, ?_, .refl l⟩
    rw [h1, h3, if_pos (by simpa using hl)]
  · have h2 : allAlike (l.map c.enc) = true := by
      unfold allAlike
      rw [List.all_eq_true]
      intro d hd
      rw [List.all_eq_true]
      intro d' hd'
      obtain ⟨a, _, rfl⟩ := List.mem_map.mp hd
      obtain ⟨b, _, rfl⟩ := List.mem_map.mp hd'
      exact h.al a b
    have hs := hs.resolve_left hl
    rw [if_neg (by simp; omega), h1, h2, hs]
    have pm := List.mergeSort_perm (l.map c.enc) (dataLe false id)
    have lift : ∀ (ds : List D), (∀ d ∈ ds, d ∈ l.map c.enc) → ∃ l' : List α, ds = l'.map c.enc := fun ds => by
      induction ds with
      | nil => exact fun _ => ⟨[], rfl⟩
      | cons d ds ih =>
        intro hd
        obtain ⟨l', e⟩ := ih fun x hx => hd x (by simp [hx])
        obtain ⟨a, _, ea⟩ := List.mem_map.mp (hd d (by simp))
        exact ⟨a :: l', by rw [List.map_cons, ea, e]⟩
    obtain ⟨l', e⟩ := lift _ fun d hd => pm.mem_iff.mp hd
    refine ⟨l', by rw [e]; rfl, ?_⟩
    rw [e] at pm
    have := pm.filterMap c.dec
    have z : ∀ xs : List α, (xs.map c.enc).filterMap c.dec = xs := fun xs => by
      rw [List.filterMap_map]
      have : (c.dec ∘ c.enc) = some := funext fun a => c.he a
      rw [this, List.filterMap_some]
    rwa [z, z] at this
end
end PV

set_option maxHeartbeats 4000000
/-! PV: argument lists of a known make. -/
namespace PV
open PySem
section
variable {α β γ δ : Type}
def A1 (a : Cod α) : List D → Option α
  | [x] => a.dec x
  | _ => none
def A2 (a : Cod α) (b : Cod β) : List D → Option (α × β)
  | [x, y] => (a.dec x).bind fun u => (b.dec y).map fun v => (u, v)
  | _ => none
def A3 (a : Cod α) (b : Cod β) (c : Cod γ) : List D → Option (α × β × γ)
  | [x, y, z] => (a.dec x).bind fun u => (b.dec y).bind fun v => (c.dec z).map fun w => (u, v, w)
  | _ => none
def A4 (a : Cod α) (b : Cod β) (c : Cod γ) (d : Cod δ) : List D → Option (α × β × γ × δ)
  | [x, y, z, t] => (a.dec x).bind fun u => (b.dec y).bind fun v => (c.dec z).bind fun w => (d.dec t).map fun s => (u, v, w, s)
  | _ => none
theorem A1_enc (a : Cod α) (x : α) : A1 a [a.enc x] = some x := by simp [A1, a.he]
theorem A2_enc (a : Cod α) (b : Cod β) (x : α) (y : β) : A2 a b [a.enc x, b.enc y] = some (x, y) := by simp [A2, a.he, b.he]
theorem A3_enc (a : Cod α) (b : Cod β) (c : Cod γ) (x : α) (y : β) (z : γ) : A3 a b c [a.enc x, b.enc y, c.enc z] = some (x, y, z) := by simp [A3, a.he, b.he, c.he]
theorem A4_enc (a : Cod α) (b : Cod β) (c : Cod γ) (d : Cod δ) (x : α) (y : β) (z : γ) (t : δ) : A4 a b c d [a.enc x, b.enc y, c.enc z, d.enc t] = some (x, y, z, t) := by simp [A4, a.he, b.he, c.he, d.he]
theorem A1_some {a : Cod α} {ds : List D} {p : α} (h : A1 a ds = some p) : ds = [a.enc p] := by
  unfold A1 at h
  split at h
  · rw [a.hd _ _ h]
  · cases h
theorem A2_some {a : Cod α} {b : Cod β} {ds : List D} {p : α × β} (h : A2 a b ds = some p) : ds = [a.enc p.1, b.enc p.2] := by
  unfold A2 at h
  split at h
  · rename_i x y
    cases e1 : a.dec x with
    | none => rw [e1] at h; cases h
    | some u =>
      rw [e1] at h
      cases e2 : b.dec y with
      | none => rw [e2] at h; cases h
      | some v =>
        rw [e2] at h
        cases h
        rw [← a.hd _ _ e1, ← b.hd _ _ e2]
  · cases h
theorem A3_some {a : Cod α} {b : Cod β} {c : Cod γ} {ds : List D} {p : α × β × γ} (h : A3 a b c ds = some p) : ds = [a.enc p.1, b.enc p.2.1, c.enc p.2.2] := by
  unfold A3 at h
  split at h
  · rename_i x y z
    cases e1 : a.dec x with
    | none => rw [e1] at h; cases h
    | some u =>
      rw [e1] at h
      cases e2 : b.dec y with
      | none => rw [e2] at h; cases h
      | some v =>
        rw [e2] at h
        cases e3 : c.dec z with
        | none => rw [e3] at h; cases h
        | some w =>
          rw [e3] at h
          cases h
          rw [← a.hd _ _ e1, ← b.hd _ _ e2, ← c.hd _ _ e3]
  · cases h
theorem A4_some {a : Cod α} {b : Cod β} {c : Cod γ} {d : Cod δ} {ds : List D} {p : α × β × γ × δ} (h : A4 a b c d ds = some p) : ds = [a.enc p.1, b.enc p.2.1, c.enc p.2.2.1, d.enc p.2.2.2] := by
  unfold A4 at h
  split at h
  · rename_i x y z t
    cases e1 : a.dec x with
    | none => rw [e1] at h; cases h
    | some u =>
      rw [e1] at h
      cases e2 : b.dec y with
      | none => rw [e2] at h; cases h
      | some v =>
        rw [e2] at h
        cases e3 : c.dec z with
        | none => rw [e3] at h; cases h
        | some w =>
          rw [e3] at h
          cases e4 : d.dec t with
          | none => rw [e4] at h; cases h
          | some s =>
            rw [e4] at h
            cases h
            rw [← a.hd _ _ e1, ← b.hd _ _ e2, ← c.hd _ _ e3, ← d.hd _ _ e4]
  · cases h
/-- a spec: arguments of a known make, a condition, a result -/
def spec {τ : Type} (A : List D → Option τ) (p : τ → Bool) (f : τ → D) (ds : List D) : Option D := (A ds).bind fun t => if p t = true then some (f t) else none
theorem spec_some {τ : Type} {A : List D → Option τ} {p : τ → Bool} {f : τ → D} {ds : List D} {d : D} (h : spec A p f ds = some d) : ∃ t, A ds = some t ∧ p t = true ∧ d = f t := by
  unfold spec at h
  cases e : A ds with
  | none => rw [e] at h; cases h
  | some t =>
    rw [e] at h
    have h : (if p t = true then some (f t) else none) = some d := h
    by_cases hp : p t = true
    · rw [if_pos hp] at h
      exact ⟨t, rfl, hp, (Option.some.inj h).symm⟩
    · rw [if_neg hp] at h
      cases h
theorem spec_of {τ : Type} {A : List D → Option τ} {p : τ → Bool} {f : τ → D} {ds : List D} {t : τ} (h : A ds = some t) (hp : p t = true) : spec A p f ds = some (f t) := by
  unfold spec
  rw [h]
  show (if p t = true then some (f t) else none) = _
  rw [if_pos hp]
end
end PV

set_option maxHeartbeats 4000000
/-! PV: reckoning with draws. -/
namespace PV
open PySem
section
variable {C : Nat → Option D} {F G : Nat → List D → W D} {ρ : Env} {Q : D → Prop} {R : Fl → Prop} {T : List D → Prop}
theorem w_lift {α : Type} (o : Option α) (Q : α → Prop) : wM.lift o Q = ∃ z, o = some z ∧ Q z := by
  cases o with
  | none => exact propext ⟨fun h => False.elim h, fun ⟨z, h, _⟩ => by cases h⟩
  | some a => exact propext ⟨fun h => ⟨a, rfl, h⟩, fun ⟨z, h, q⟩ => by cases h; exact q⟩
theorem w_bind {α β : Type} (x : W α) (f : α → W β) (Q : β → Prop) : wM.bind x f Q = x fun a => f a Q := rfl
theorem w_pure {α : Type} (a : α) (Q : α → Prop) : wM.pure a Q = Q a := rfl
@[simp] theorem W_none : ev wM C F G .none ρ Q = Q .none := by unfold ev; rfl
@[simp] theorem W_bl {b : Bool} : ev wM C F G (.bl b) ρ Q = Q (.bool b) := by unfold ev; rfl
@[simp] theorem W_int {b : Int} : ev wM C F G (.int b) ρ Q = Q (.int b) := by unfold ev; rfl
@[simp] theorem W_var {i : Nat} : ev wM C F G (.var i) ρ Q = ∃ z, getV ρ i = some z ∧ Q z := by unfold ev; exact w_lift _ _
@[simp] theorem W_bin {o : Op2} {a b : E} : ev wM C F G (.bin o a b) ρ Q = ev wM C F G a ρ fun x => ev wM C F G b ρ fun y => ∃ z, dBin o x y = some z ∧ Q z := by
  conv => { lhs; unfold ev }
  simp only [w_bind, w_lift]
@[simp] theorem W_ix {a b : E} : ev wM C F G (.ix a b) ρ Q = ev wM C F G a ρ fun x => ev wM C F G b ρ fun y => ∃ z, dIx x y = some z ∧ Q z := by
  conv => { lhs; unfold ev }
  simp only [w_bind, w_lift]
@[simp] theorem W_cmp {c : Cm} {a b : E} : ev wM C F G (.cmp c a b) ρ Q = ev wM C F G a ρ fun x => ev wM C F G b ρ fun y => ∃ z, (dCmp c x y).map .bool = some z ∧ Q z := by
  conv => { lhs; unfold ev }
  simp only [w_bind, w_lift]
@[simp] theorem W_bi {b : Bi} {a : E} : ev wM C F G (.bi b a) ρ Q = ev wM C F G a ρ fun x => ∃ z, dBi b x = some z ∧ Q z := by
  conv => { lhs; unfold ev }
  simp only [w_bind, w_lift]
@[simp] theorem W_tup {es : Es} : ev wM C F G (.tup es) ρ Q = evs wM C F G es ρ fun ds => Q (.tuple ds) := by
  conv => { lhs; unfold ev }
  simp only [w_bind, w_pure]
@[simp] theorem W_lst {es : Es} : ev wM C F G (.lst es) ρ Q = evs wM C F G es ρ fun ds => Q (.list ds) := by
  conv => { lhs; unfold ev }
  simp only [w_bind, w_pure]
@[simp] theorem W_call {f : Nat} {es : Es} : ev wM C F G (.call f es) ρ Q = evs wM C F G es ρ fun ds => F f ds Q := by
  conv => { lhs; unfold ev }
  simp only [w_bind]
@[simp] theorem W_callw {f : Nat} {es : Es} : ev wM C F G (.callw f es) ρ Q = evs wM C F G es ρ fun ds => G f ds Q := by
  conv => { lhs; unfold ev }
  simp only [w_bind]
@[simp] theorem Ws_nil : evs wM C F G .nil ρ T = T [] := by unfold evs; rfl
@[simp] theorem Ws_cons {e : E} {es : Es} : evs wM C F G (.cons e es) ρ T = ev wM C F G e ρ fun d => evs wM C F G es ρ fun ds => T (d :: ds) := by
  conv => { lhs; unfold evs }
  simp only [w_bind, w_pure]
@[simp] theorem WS_r1 {a : E} : evS wM C F G (.r1 a) ρ T = ev wM C F G a ρ fun x => ∃ i, int? x = some i ∧ okR 0 i = true ∧ T (rng 0 i) := by
  conv => { lhs; unfold evS }
  simp only [w_bind, w_lift]
  refine congrArg (ev wM C F G a ρ) (funext fun x => ?_)
  refine propext (exists_congr fun i => and_congr_right fun _ => ?_)
  by_cases h : okR 0 i = true
  · rw [if_pos h]
    exact ⟨fun q => ⟨h, q⟩, fun q => q.2⟩
  · rw [if_neg h]
    exact ⟨fun q => False.elim q, fun q => absurd q.1 h⟩
@[simp] theorem WS_val {a : E} : evS wM C F G (.val a) ρ T = ev wM C F G a ρ fun x => ∃ i, items x = some i ∧ T i := by
  conv => { lhs; unfold evS }
  simp only [w_bind, w_lift]
@[simp] theorem WX_asg {i : Nat} {e : E} : ex wM C F G (.asg i e) ρ R = ev wM C F G e (frz (esc false e) ρ) fun d => R (.nx ((frz (esc false e) ρ).set i (slotOf e d))) := by
  conv => { lhs; unfold ex }
  simp only [w_bind, w_pure]
@[simp] theorem WX_asgp {is : List Nat} {es : Es} : ex wM C F G (.asgp is es) ρ R = evs wM C F G es (frz (escs es) ρ) fun ds => ∃ ρ', setAll is es ds (frz (escs es) ρ) = some ρ' ∧ R (.nx ρ') := by
  conv => { lhs; unfold ex }
  simp only [w_bind, w_lift, w_pure]
@[simp] theorem WX_aug {i : Nat} {o : Op2} {e : E} : ex wM C F G (.aug i o e) ρ R = ∃ x, getV ρ i = some x ∧ ev wM C F G e (frz (esc false e) ρ) fun y => ∃ a, int? x = some a ∧ ∃ b, int? y = some b ∧ ∃ z, dBin o (.int a) (.int b) = some z ∧ R (.nx ((frz (esc false e) ρ).set i (.sh z))) := by
  conv => { lhs; unfold ex }
  simp only [w_bind, w_lift, w_pure]
@[simp] theorem WX_ret {e : E} : ex wM C F G (.ret e) ρ R = ev wM C F G e (frz (esc false e) ρ) fun d => R (.rt d) := by
  conv => { lhs; unfold ex }
  simp only [w_bind, w_pure]
/-- a turn of a for -/
def fBodyW (C : Nat → Option D) (F G : Nat → List D → W D) (p : Pat) (b : Ss) (d : D) (ρ : Env) : W Fl := wM.bind (wM.lift (bindP p d ρ)) fun ρ => exs wM C F G b ρ
theorem fBodyW_eq {p : Pat} {b : Ss} {d : D} {ρ' : Env} (h : bindP p d ρ = some ρ') : fBodyW C F G p b d ρ R = exs wM C F G b ρ' R := by
  unfold fBodyW
  rw [w_bind, w_lift]
  exact propext ⟨fun ⟨z, h1, q⟩ => by rw [h] at h1; cases h1; exact q, fun q => ⟨_, h, q⟩⟩
@[simp] theorem WX_for {p : Pat} {s : Src} {b : Ss} : ex wM C F G (.for_ p s b) ρ R = evS wM C F G s (frz (escF s) ρ) fun xs => forL wM (fBodyW C F G p b) (frz (escF s) ρ) xs (frz (escF s) ρ) R := by
  conv => { lhs; unfold ex }
  simp only [w_bind]
  rfl
@[simp] theorem WXs_nil : exs wM C F G .nil ρ R = R (.nx ρ) := by unfold exs; rfl
def fl3 (r : Env → Prop) (R : Fl → Prop) : Fl → Prop
  | .nx ρ => r ρ
  | .rt d => R (.rt d)
  | .bk ρ => R (.bk ρ)
@[simp] theorem fl3_nx {r : Env → Prop} : fl3 r R (.nx ρ) = r ρ := rfl
@[simp] theorem fl3_rt {r : Env → Prop} {d : D} : fl3 r R (.rt d) = R (.rt d) := rfl
theorem WXs_cons {s : S} {r : Ss} : exs wM C F G (.cons s r) ρ R = ex wM C F G s ρ (fl3 (fun ρ => exs wM C F G r ρ R) R) := by
  conv => { lhs; unfold exs }
  rw [w_bind]
  refine congrArg (ex wM C F G s ρ) (funext fun f => ?_)
  cases f <;> rfl
theorem forL_W {g : D → Env → W Fl} {ρ0 : Env} (I : Nat → Env → Prop) {xs : List D} (step : ∀ i x ρ, xs[i]? = some x → I i ρ → ∀ R : Fl → Prop, (∀ ρ', I (i + 1) (msk ρ0 ρ') → R (.nx ρ')) → g x ρ R) : ∀ {ρ : Env} {R : Fl → Prop}, I 0 ρ → (∀ ρ', I xs.length ρ' → R (.nx ρ')) → forL wM g ρ0 xs ρ R := by
  induction xs generalizing I with
  | nil => exact fun {ρ R} h q => by unfold forL; exact q ρ h
  | cons x xs ih =>
    intro ρ R h q
    unfold forL
    rw [w_bind]
    refine step 0 x ρ rfl h _ fun ρ' h' => ?_
    exact ih (fun i ρ => I (i + 1) ρ) (fun i y ρ hy hI => step (i + 1) y ρ (by simpa using hy) hI) h' q
theorem compL_W {g : D → W (Option D)} (I : Nat → List D → Prop) {xs : List D} (step : ∀ i x ys, xs[i]? = some x → I i ys → ∀ R : Option D → Prop, (∀ y, I (i + 1) (ys ++ [y]) → R (some y)) → g x R) : ∀ {T : List D → Prop} (ys : List D), I 0 ys → (∀ zs, I xs.length (ys ++ zs) → T zs) → compL wM g xs T := by
  induction xs generalizing I with
  | nil => exact fun {T} ys h q => by unfold compL; exact q [] (by simpa using h)
  | cons x xs ih =>
    intro T ys h q
    unfold compL
    rw [w_bind]
    refine step 0 x ys rfl h _ fun y h' => ?_
    rw [w_bind]
    refine ih (fun i ys => I (i + 1) ys) (fun i z zs hz hI => step (i + 1) z zs (by simpa using hz) hI) (ys ++ [y]) h' fun zs hz => ?_
    exact q (y :: zs) (by simpa using hz)
end
section
variable {C : Nat → Option D} {T : Nat → List D → Option D} {G : Nat → List D → W D} {ρ : Env}
theorem w_ev {e : E} {d : D} {Q : D → Prop} (h : ev optM C T (fun _ _ => none) e ρ = some d) (q : Q d) : ev wM C (fun n ds => ofO (T n ds)) G e ρ Q := gv_ev (fun n ds => gv_ofO _) (fun n ds => gv_none) e ρ d h Q q
theorem w_ex {s : S} {f : Fl} {R : Fl → Prop} (h : ex optM C T (fun _ _ => none) s ρ = some f) (q : R f) : ex wM C (fun n ds => ofO (T n ds)) G s ρ R := gv_ex (fun n ds => gv_ofO _) (fun n ds => gv_none) s ρ f h R q
theorem w_exs {s : Ss} {f : Fl} {R : Fl → Prop} (h : exs optM C T (fun _ _ => none) s ρ = some f) (q : R f) : exs wM C (fun n ds => ofO (T n ds)) G s ρ R := gv_exs (fun n ds => gv_ofO _) (fun n ds => gv_none) s ρ f h R q
/-- one statement reckoned in Option -/
theorem w_cons {s : S} {r : Ss} {ρ' : Env} {R : Fl → Prop} (h : ex optM C T (fun _ _ => none) s ρ = some (.nx ρ')) (q : exs wM C (fun n ds => ofO (T n ds)) G r ρ' R) : exs wM C (fun n ds => ofO (T n ds)) G (.cons s r) ρ R := by
  rw [WXs_cons]
  exact w_ex h q
end
@[simp] theorem gNext_eq {n : Int} {Q : D → Prop} : gNext [.int n] Q = (0 < n ∧ ∀ j : Int, 0 ≤ j → j < n → Q (.int j)) := by
  unfold gNext
  exact propext ⟨fun ⟨m, h, a, b⟩ => by cases h; exact ⟨a, b⟩, fun ⟨a, b⟩ => ⟨n, rfl, a, b⟩⟩
end PV

set_option maxHeartbeats 4000000
/-! PV: reckoning with draws, more. -/
namespace PV
open PySem
section
variable {C : Nat → Option D} {F G : Nat → List D → W D} {ρ : Env} {Q : D → Prop} {R : Fl → Prop} {T : List D → Prop}
def oStepW (C : Nat → Option D) (F G : Nat → List D → W D) (p : Pat) (t elt : E) (ρ : Env) (d : D) : W (Option D) := wM.bind (wM.lift (bindP p d ρ)) fun ρ1 =>
  wM.bind (ev wM C F G t ρ1) fun x => wM.bind (wM.lift (bool? x)) fun b => if b = true then wM.bind (ev wM C F G elt ρ1) fun y => wM.pure (some y) else wM.pure none
theorem oStepW_yes {p : Pat} {elt : E} {ρ' : Env} {d : D} {R : Option D → Prop} (h : bindP p d ρ = some ρ') : oStepW C F G p .yes elt ρ d R = ev wM C F G elt ρ' fun y => R (some y) := by
  unfold oStepW
  rw [w_bind, w_lift]
  have e : ∀ z, bindP p d ρ = some z ↔ z = ρ' := fun z => by rw [h]; exact ⟨fun q => (Option.some.inj q).symm, fun q => by rw [q]⟩
  simp only [e, exists_eq_left]
  rw [w_bind]
  show ev wM C F G (.bl true) ρ' _ = _
  rw [W_bl, w_bind, w_lift]
  exact propext ⟨fun ⟨z, h1, q⟩ => by cases h1; exact q, fun q => ⟨true, rfl, q⟩⟩
@[simp] theorem W_comp {own : List Nat} {p : Pat} {s : Src} {t elt : E} : ev wM C F G (.comp own p s t elt) ρ Q = evS wM C F G s ρ fun xs => compL wM (oStepW C F G p t elt (wip own ρ)) xs fun ys => Q (.list ys) := by
  conv => { lhs; unfold ev }
  simp only [w_bind, w_pure]
  rfl
@[simp] theorem WX_ite {t : E} {a b : Ss} : ex wM C F G (.ite t a b) ρ R = ev wM C F G t (frz (esc true t) ρ) fun x => ∃ t', bool? x = some t' ∧ (if t' = true then exs wM C F G a (frz (esc true t) ρ) R else exs wM C F G b (frz (esc true t) ρ) R) := by
  conv => { lhs; unfold ex }
  simp only [w_bind, w_lift]
  refine congrArg (ev wM C F G t _) (funext fun x => propext (exists_congr fun i => and_congr_right fun _ => ?_))
  by_cases h : i = true
  · simp only [if_pos h]
  · simp only [if_neg h]
end
end PV

set_option maxHeartbeats 4000000
/-! PV: goals with draws, hidden from a look at their heads (Lean would reckon them out). -/
namespace PV
open PySem
@[irreducible] def Wr (P : Prop) : Prop := P
theorem Wr.mk {P : Prop} (h : P) : Wr P := by unfold Wr; exact h
theorem Wr.out {P : Prop} (h : Wr P) : P := by unfold Wr at h; exact h
theorem Wr.ex {α : Type} {P Q : α → Prop} (z : α) (h : P z) (q : Wr (Q z)) : Wr (∃ z, P z ∧ Q z) := Wr.mk ⟨z, h, q.out⟩
theorem Wr.and {P Q : Prop} (h : P) (q : Wr Q) : Wr (P ∧ Q) := Wr.mk ⟨h, q.out⟩
theorem Wr.all {α : Sort _} {P : α → Prop} (h : ∀ x, Wr (P x)) : Wr (∀ x, P x) := Wr.mk fun x => (h x).out
theorem Wr.draw {n : Int} {Q : Int → Prop} (h : ∀ j : Int, 0 ≤ j → j < n → Wr (Q j)) : Wr (∀ j : Int, 0 ≤ j → j < n → Q j) := Wr.mk fun j a b => (h j a b).out
section
variable {C : Nat → Option D} {T : Nat → List D → Option D} {F G : Nat → List D → W D} {ρ : Env}
theorem Wr.next {n : Int} {Q : D → Prop} (hn : 0 < n) (h : ∀ j : Int, 0 ≤ j → j < n → Wr (Q (.int j))) : Wr (gNext [.int n] Q) := Wr.mk (by rw [gNext_eq]; exact ⟨hn, fun j a b => (h j a b).out⟩)
theorem Wr.exs {s : Ss} {f : Fl} {R : Fl → Prop} (h : exs optM C T (fun _ _ => none) s ρ = some f) (q : Wr (R f)) : Wr (exs wM C (fun n ds => ofO (T n ds)) G s ρ R) := Wr.mk (w_exs h q.out)
theorem Wr.cons {s : S} {r : Ss} {ρ' : Env} {R : Fl → Prop} (h : PV.ex optM C T (fun _ _ => none) s ρ = some (.nx ρ')) (q : Wr (PV.exs wM C (fun n ds => ofO (T n ds)) G r ρ' R)) : Wr (PV.exs wM C (fun n ds => ofO (T n ds)) G (.cons s r) ρ R) := Wr.mk (w_cons h q.out)
theorem forL_R {g : D → Env → W Fl} {ρ0 : Env} (I : Nat → Env → Prop) {xs : List D} (step : ∀ i x ρ, xs[i]? = some x → I i ρ → ∀ R : Fl → Prop, (∀ ρ', I (i + 1) (msk ρ0 ρ') → Wr (R (.nx ρ'))) → Wr (g x ρ R)) {ρ : Env} {R : Fl → Prop} (h : I 0 ρ) (q : ∀ ρ', I xs.length ρ' → Wr (R (.nx ρ'))) : Wr (forL wM g ρ0 xs ρ R) :=
  Wr.mk (forL_W I (fun i x ρ hx hI R hR => (step i x ρ hx hI R fun ρ' h => Wr.mk (hR ρ' h)).out) h fun ρ' h => (q ρ' h).out)
theorem compL_R {g : D → W (Option D)} (I : Nat → List D → Prop) {xs : List D} (step : ∀ i x ys, xs[i]? = some x → I i ys → ∀ R : Option D → Prop, (∀ y, I (i + 1) (ys ++ [y]) → Wr (R (some y))) → Wr (g x R)) {T : List D → Prop} (h : I 0 []) (q : ∀ zs, I xs.length zs → Wr (T zs)) : Wr (compL wM g xs T) :=
  Wr.mk (compL_W I (fun i x ys hx hI R hR => (step i x ys hx hI R fun y h => Wr.mk (hR y h)).out) [] h fun zs h => (q zs (by simpa using h)).out)
end
section
variable {C : Nat → Option D} {F G : Nat → List D → W D} {ρ : Env} {Q : D → Prop} {R : Fl → Prop} {T : List D → Prop}
@[simp] theorem WX_app {i : Nat} {e : E} : ex wM C F G (.app i e) ρ R = ∃ x, getO (frz (esc false e) ρ) i = some x ∧ ev wM C F G e (frz (esc false e) ρ) fun d => ∃ y, dApp d x = some y ∧ R (.nx ((frz (esc false e) ρ).set i (.ow y))) := by
  conv => { lhs; unfold ex }
  simp only [w_bind, w_lift, w_pure]
@[simp] theorem WX_asgt {p : Pat} {e : E} : ex wM C F G (.asgt p e) ρ R = ev wM C F G e (frz (esc false e) ρ) fun d => ∃ ρ', bindP p d (frz (esc false e) ρ) = some ρ' ∧ R (.nx ρ') := by
  conv => { lhs; unfold ex }
  simp only [w_bind, w_lift, w_pure]
@[simp] theorem W_str {s : Str} : ev wM C F G (.str s) ρ Q = Q (.str s) := by unfold ev; rfl
@[simp] theorem W_neg {a : E} : ev wM C F G (.neg a) ρ Q = ev wM C F G a ρ fun x => ∃ z, ((int? x).map fun i => PyData.int (-i)) = some z ∧ Q z := by
  conv => { lhs; unfold ev }
  simp only [w_bind, w_lift]
@[simp] theorem W_not {a : E} : ev wM C F G (.not a) ρ Q = ev wM C F G a ρ fun x => ∃ z, ((bool? x).map fun i => PyData.bool (!i)) = some z ∧ Q z := by
  conv => { lhs; unfold ev }
  simp only [w_bind, w_lift]
@[simp] theorem W_mx {a b : E} : ev wM C F G (.mx a b) ρ Q = ev wM C F G a ρ fun x => ev wM C F G b ρ fun y => ∃ z, dMx x y = some z ∧ Q z := by
  conv => { lhs; unfold ev }
  simp only [w_bind, w_lift]
@[simp] theorem W_mn {a b : E} : ev wM C F G (.mn a b) ρ Q = ev wM C F G a ρ fun x => ev wM C F G b ρ fun y => ∃ z, dMn x y = some z ∧ Q z := by
  conv => { lhs; unfold ev }
  simp only [w_bind, w_lift]
@[simp] theorem W_ife {t a b : E} : ev wM C F G (.ife t a b) ρ Q = ev wM C F G t ρ fun x => ∃ z, bool? x = some z ∧ (if z = true then ev wM C F G a ρ Q else ev wM C F G b ρ Q) := by
  conv => { lhs; unfold ev }
  simp only [w_bind, w_lift]
  refine congrArg (ev wM C F G t _) (funext fun x => propext (exists_congr fun i => and_congr_right fun _ => ?_))
  by_cases h : i = true
  · simp only [if_pos h]
  · simp only [if_neg h]
end
/-- a row picked -/
def gPick : List D → W D := fun ds R => ∃ xs : List D, ds = [.list xs] ∧ 0 < xs.length ∧ ∀ x ∈ xs, R x
theorem Wr.pick {xs : List D} {Q : D → Prop} (h0 : xs ≠ []) (h : ∀ x ∈ xs, Wr (Q x)) : Wr (gPick [.list xs] Q) := Wr.mk ⟨xs, rfl, List.length_pos_iff.mpr h0, fun x hx => (h x hx).out⟩
theorem Wr.app {i : Nat} {e : E} {C : Nat → Option D} {F G : Nat → List D → W D} {ρ : Env} {R : Fl → Prop} {x : D} (h : getO (frz (esc false e) ρ) i = some x) (q : Wr (ev wM C F G e (frz (esc false e) ρ) fun d => ∃ y, dApp d x = some y ∧ R (.nx ((frz (esc false e) ρ).set i (.ow y))))) : Wr (PV.ex wM C F G (.app i e) ρ R) := by
  rw [WX_app]
  exact Wr.ex x h q
end PV

set_option maxHeartbeats 4000000
/-! PV: fractions in least terms; loops that end early. -/
namespace PV
open PySem

theorem gcd_fmod (a b : Int) : Int.gcd b (a.fmod b) = Int.gcd a b := by
  have e : a.fmod b = a - b * a.fdiv b := Int.fmod_def a b
  have h1 : (Int.gcd b (a.fmod b) : Int) ∣ b := Int.gcd_dvd_left ..
  have h2 : (Int.gcd b (a.fmod b) : Int) ∣ a.fmod b := Int.gcd_dvd_right ..
  have h3 : (Int.gcd a b : Int) ∣ a := Int.gcd_dvd_left ..
  have h4 : (Int.gcd a b : Int) ∣ b := Int.gcd_dvd_right ..
  have h5 : (Int.gcd b (a.fmod b) : Int) ∣ a := by
    have e2 : a = a.fmod b + b * a.fdiv b := by rw [e]; omega
    have := Int.dvd_add h2 (Int.dvd_mul_of_dvd_left (c := a.fdiv b) h1)
    rwa [← e2] at this
  have h6 : (Int.gcd a b : Int) ∣ a.fmod b := by
    rw [e]
    exact Int.dvd_sub h3 (Int.dvd_mul_of_dvd_left h4)
  exact Nat.dvd_antisymm (Int.ofNat_dvd.mp (Int.dvd_coe_gcd h5 h1)) (Int.ofNat_dvd.mp (Int.dvd_coe_gcd h4 h6))
/-- a fraction in least terms (b from 1 on) -/
def fr (a b : Int) : Int × Int := (a.fdiv (Int.gcd a b), b.fdiv (Int.gcd a b))
theorem gcd_pos {a b : Int} (h : 0 < b) : 0 < (Int.gcd a b : Int) := by
  have : Int.gcd a b ≠ 0 := fun e => by
    have := (Int.gcd_eq_zero_iff.mp e).2
    omega
  omega
theorem gcd_le {a b : Int} (h : 0 < b) : (Int.gcd a b : Int) ≤ b := Int.le_of_dvd h (Int.gcd_dvd_right ..)
/-- stands for a over b -/
structure FR (p : Int × Int) (a b : Int) : Prop where
  pos : 0 < p.2
  pos2 : 0 < b
  eq : p.1 * b = a * p.2
theorem fdiv_dvd {a g : Int} (hg : 0 < g) (h : g ∣ a) : a.fdiv g * g = a := by
  obtain ⟨c, rfl⟩ := h
  rw [Int.mul_comm g c, Int.mul_fdiv_cancel _ (by omega)]
theorem fr_rep {a b : Int} (h : 0 < b) : FR (fr a b) a b := by
  have hg := gcd_pos (a := a) h
  have e1 := fdiv_dvd hg (Int.gcd_dvd_left .. : (Int.gcd a b : Int) ∣ a)
  have e2 := fdiv_dvd hg (Int.gcd_dvd_right .. : (Int.gcd a b : Int) ∣ b)
  unfold fr
  generalize (Int.gcd a b : Int) = g at hg e1 e2 ⊢
  generalize a.fdiv g = x at e1 ⊢
  generalize b.fdiv g = y at e2 ⊢
  refine ⟨?_, h, ?_⟩
  · rcases Int.lt_trichotomy 0 y with h1 | h1 | h1
    · exact h1
    · simp only at *; subst h1; omega
    · have := Int.mul_neg_of_neg_of_pos h1 hg
      omega
  · simp only
    rw [← e1, ← e2, Int.mul_comm y g, ← Int.mul_assoc]
theorem fr_le {a b : Int} (h : 0 < b) : (fr a b).2 ≤ b ∧ (fr a b).1.natAbs ≤ a.natAbs := by
  have hg := gcd_pos (a := a) h
  have e1 := fdiv_dvd hg (Int.gcd_dvd_left .. : (Int.gcd a b : Int) ∣ a)
  have e2 := fdiv_dvd hg (Int.gcd_dvd_right .. : (Int.gcd a b : Int) ∣ b)
  have hp := (fr_rep (a := a) h).pos
  unfold fr at hp ⊢
  generalize (Int.gcd a b : Int) = g at hg e1 e2 hp ⊢
  generalize a.fdiv g = x at e1 hp ⊢
  generalize b.fdiv g = y at e2 hp ⊢
  simp only at hp ⊢
  constructor
  · have : y * 1 ≤ y * g := Int.mul_le_mul_of_nonneg_left (by omega) (by omega)
    omega
  · rw [← e1, Int.natAbs_mul]
    exact Nat.le_mul_of_pos_right _ (by omega)
theorem FR.lt {p q : Int × Int} {a b c d : Int} (h : FR p a b) (h' : FR q c d) : p.1 * q.2 < q.1 * p.2 ↔ a * d < c * b := by
  obtain ⟨p1, p2⟩ := p
  obtain ⟨q1, q2⟩ := q
  obtain ⟨h1, h2, h3⟩ := h
  obtain ⟨k1, k2, k3⟩ := h'
  simp only at *
  have bd : 0 < b * d := Int.mul_pos h2 k2
  have pq : 0 < p2 * q2 := Int.mul_pos h1 k1
  have e1 : (p1 * q2) * (b * d) = (a * d) * (p2 * q2) := by
    rw [show (p1 * q2) * (b * d) = (p1 * b) * (q2 * d) by ac_rfl, h3]; ac_rfl
  have e2 : (q1 * p2) * (b * d) = (c * b) * (p2 * q2) := by
    rw [show (q1 * p2) * (b * d) = (q1 * d) * (p2 * b) by ac_rfl, k3]; ac_rfl
  constructor
  · intro h
    have := Int.mul_lt_mul_of_pos_right h bd
    rw [e1, e2] at this
    exact Int.lt_of_mul_lt_mul_right this (Int.le_of_lt pq)
  · intro h
    have := Int.mul_lt_mul_of_pos_right h pq
    rw [← e1, ← e2] at this
    exact Int.lt_of_mul_lt_mul_right this (Int.le_of_lt bd)
theorem FR.one (a : Int) : FR (a, 1) a 1 := ⟨Int.one_pos, Int.one_pos, rfl⟩
theorem FR.add {p q : Int × Int} {a b c d : Int} (h : FR p a b) (h' : FR q c d) : FR (fr (p.1 * q.2 + q.1 * p.2) (p.2 * q.2)) (a * d + c * b) (b * d) := by
  have r := fr_rep (a := p.1 * q.2 + q.1 * p.2) (Int.mul_pos h.pos h'.pos)
  generalize fr (p.1 * q.2 + q.1 * p.2) (p.2 * q.2) = z at r ⊢
  obtain ⟨p1, p2⟩ := p
  obtain ⟨q1, q2⟩ := q
  obtain ⟨z1, z2⟩ := z
  obtain ⟨h1, h2, h3⟩ := h
  obtain ⟨k1, k2, k3⟩ := h'
  obtain ⟨r1, r2, r3⟩ := r
  simp only at *
  refine ⟨r1, Int.mul_pos h2 k2, ?_⟩
  simp only
  have pq : p2 * q2 ≠ 0 := Int.ne_of_gt (Int.mul_pos h1 k1)
  refine Int.eq_of_mul_eq_mul_right pq ?_
  rw [show z1 * (b * d) * (p2 * q2) = z1 * (p2 * q2) * (b * d) by ac_rfl, r3]
  rw [show (p1 * q2 + q1 * p2) * z2 * (b * d) = ((p1 * b) * (q2 * d) + (q1 * d) * (p2 * b)) * z2 by rw [Int.add_mul, Int.add_mul, Int.add_mul]; congr 1 <;> ac_rfl]
  rw [h3, k3, Int.add_mul, Int.add_mul, Int.add_mul]
  congr 1 <;> ac_rfl
theorem FR.sub {p q : Int × Int} {a b c d : Int} (h : FR p a b) (h' : FR q c d) : FR (fr (p.1 * q.2 - q.1 * p.2) (p.2 * q.2)) (a * d - c * b) (b * d) := by
  have h2 : FR (-q.1, q.2) (-c) d := ⟨h'.pos, h'.pos2, by simp only; rw [Int.neg_mul, Int.neg_mul, h'.eq]⟩
  have := h.add h2
  simp only [Int.neg_mul, ← Int.sub_eq_add_neg] at this
  exact this
/-- a for that ends at the first of a kind -/
theorem forL_find {α : Type} {g : D → Env → Option Fl} {ρ0 : Env} (e : α → D) (p : α → Bool) (r : α → D) : ∀ xs : List α, (∀ x ∈ xs, (p x = true → g (e x) ρ0 = some (.rt (r x))) ∧ (p x = false → ∃ ρ', g (e x) ρ0 = some (.nx ρ') ∧ msk ρ0 ρ' = ρ0)) →
    forL optM g ρ0 (xs.map e) ρ0 = some (match xs.find? p with
      | some x => .rt (r x)
      | none => .nx ρ0)
  | [], _ => by unfold forL; rfl
  | x :: xs, h => by
    rw [List.map_cons]
    unfold forL
    rw [o_bind]
    cases hp : p x with
    | true =>
      rw [(h x (by simp)).1 hp, List.find?_cons_of_pos hp]
      rfl
    | false =>
      obtain ⟨ρ', h1, h2⟩ := (h x (by simp)).2 hp
      rw [h1, List.find?_cons_of_neg (by simp [hp])]
      show forL optM g ρ0 (xs.map e) (msk ρ0 ρ') = _
      rw [h2]
      exact forL_find e p r xs fun y hy => h y (by simp [hy])
@[simp] theorem c_neb {a b : Bool} : dCmp .ne (.bool a) (.bool b) = some (!decide (a = b)) := by cases a <;> cases b <;> rfl
@[simp] theorem c_eqb {a b : Bool} : dCmp .eq (.bool a) (.bool b) = some (decide (a = b)) := by cases a <;> cases b <;> rfl
theorem cut_last {α : Type} (xs : List α) (x : α) : cut (xs ++ [x]) none (some (-1)) = xs := by
  have e : HT.sIx (xs ++ [x]).length (xs ++ [x]).length (some (-1)) = xs.length := by
    simp [HT.sIx]
    omega
  unfold cut
  rw [e, HT.sIx_none]
  simp
theorem nil_or_app {α : Type} (s : List α) : s = [] ∨ ∃ ys x, s = ys ++ [x] := by
  rcases List.eq_nil_or_concat s with h | ⟨ys, x, h⟩
  · exact .inl h
  · exact .inr ⟨ys, x, by rw [h, List.concat_eq_append]⟩
theorem i_sumf {α : Type} {xs : List α} {f : α → Int} : dBi .sum (.list (xs.map fun x => .int (f x))) = some (.int (xs.map f).sum) := by
  have e : xs.map (fun x => PyData.int (f x)) = (xs.map f).map .int := by rw [List.map_map]; rfl
  rw [e, i_sum]
@[simp] theorem sm_2 : small64 2 = true := by decide
@[simp] theorem sm_1 : small64 1 = true := by decide
@[simp] theorem sm_3 : small64 3 = true := by decide
theorem sm_abs {a : Int} (h : a.natAbs ≤ 1000000) : small64 a = true := by
  unfold small64
  exact decide_eq_true (by omega)
theorem fold_fil {α β : Type} (p : α → Bool) (g : α → β) : ∀ (xs : List α) (s : List β), xs.foldl (fun s k => if p k = true then s ++ [g k] else s) s = s ++ (xs.filter p).map g
  | [], s => by simp
  | x :: xs, s => by
    rw [List.foldl_cons, fold_fil p g xs]
    by_cases h : p x = true
    · rw [if_pos h, List.filter_cons_of_pos h, List.map_cons, List.append_assoc]
      rfl
    · rw [if_neg h, List.filter_cons_of_neg h]
/-! the size of plain data -/
mutual
def psz : D → Nat
  | .list xs => pszs xs + 1
  | .tuple xs => pszs xs + 1
  | _ => 1
def pszs : List D → Nat
  | [] => 0
  | x :: xs => psz x + pszs xs
end
theorem pszs_app : ∀ xs ys : List D, pszs (xs ++ ys) = pszs xs + pszs ys
  | [], ys => by simp [pszs]
  | x :: xs, ys => by simp [pszs, pszs_app xs ys, Nat.add_assoc]
theorem psz_pos (x : D) : 1 ≤ psz x := by cases x <;> simp [psz]
theorem pszs_len : ∀ xs : List D, xs.length ≤ pszs xs
  | [] => by simp
  | x :: xs => by
    have := pszs_len xs
    have := psz_pos x
    simp [pszs]
    omega
def kidsOf : D → List D
  | .list xs => xs
  | .tuple xs => xs
  | _ => []
theorem range_get {α β : Type} (xs : List α) (f : Nat → β) (g : α → β) (h : ∀ i (hi : i < xs.length), f i = g xs[i]) : (List.range xs.length).map f = xs.map g := by
  refine List.ext_getElem (by simp) fun i h1 h2 => ?_
  simp only [List.getElem_map, List.getElem_range]
  exact h i (by simpa using h1)
end PV

set_option maxHeartbeats 4000000
/-! PV: what the defs of fractions answer; one value held beside another. -/
namespace PV
open PySem
def cF : Cod (Int × Int) := c2 cInt cInt
theorem ok_F : CodOk cF 1 := ok_2 ok_int ok_int (by decide) (by decide)
theorem e_F (p : Int × Int) : cF.enc p = .tuple [.int p.1, .int p.2] := rfl
def S_common := spec (A2 cInt cInt) (fun p => decide (0 ≤ p.2)) fun p => .int (Int.gcd p.1 p.2)
def S_fraction := spec (A2 cInt cInt) (fun p => decide (0 < p.2 ∧ p.2 < 1073741824)) fun p => cF.enc (fr p.1 p.2)
def S_is_less := spec (A2 cF cF) (fun p => small64 p.1.2 && small64 p.2.2) fun p => .bool (decide (p.1.1 * p.2.2 < p.2.1 * p.1.2))
def okM (p q : Int × Int) : Bool := decide (0 < p.2 ∧ 0 < q.2 ∧ p.2 * q.2 < 1073741824)
def S_plus := spec (A2 cF cF) (fun p => okM p.1 p.2) fun p => cF.enc (fr (p.1.1 * p.2.2 + p.2.1 * p.1.2) (p.1.2 * p.2.2))
def S_minus := spec (A2 cF cF) (fun p => okM p.1 p.2) fun p => cF.enc (fr (p.1.1 * p.2.2 - p.2.1 * p.1.2) (p.1.2 * p.2.2))
def S_times := spec (A2 cF cF) (fun p => okM p.1 p.2 && small64 p.1.1) fun p => cF.enc (fr (p.1.1 * p.2.1) (p.1.2 * p.2.2))
def S_parted := spec (A2 cF cF) (fun p => decide (0 < p.1.2 ∧ 0 < p.2.1 ∧ p.1.2 * p.2.1 < 1073741824) && small64 p.2.2) fun p => cF.enc (fr (p.1.1 * p.2.2) (p.1.2 * p.2.1))
theorem le_mul {a b : Int} (ha : 0 < a) (hb : 0 < b) : a ≤ a * b := by
  have : a * 1 ≤ a * b := Int.mul_le_mul_of_nonneg_left (by omega) (by omega)
  omega
theorem sm_of {a : Int} (h : 0 < a ∧ a < 1073741824) : small64 a = true := by
  unfold small64
  exact decide_eq_true (by omega)
theorem okM_sm {p q : Int × Int} (h : okM p q = true) : small64 p.2 = true ∧ small64 q.2 = true := by
  unfold okM at h
  simp only [decide_eq_true_eq] at h
  have h1 := le_mul h.1 h.2.1
  have h2 := le_mul h.2.1 h.1
  rw [Int.mul_comm] at h2
  exact ⟨sm_of ⟨h.1, by omega⟩, sm_of ⟨h.2.1, by omega⟩⟩
/-- plain data held beside themselves -/
def okSame (d : D) : Bool := shal 10 d && decide (psz d ≤ 1000000)
open Classical in
noncomputable def S_same : List D → Option D
  | [a, b] => if a = b ∧ okSame a = true then some (.bool true) else none
  | _ => none
theorem S_same_of {a : D} (h : okSame a = true) : S_same [a, a] = some (.bool true) := by
  unfold S_same
  exact if_pos ⟨rfl, h⟩
theorem S_same_some {ds : List D} {d : D} (h : S_same ds = some d) : ∃ a, ds = [a, a] ∧ okSame a = true ∧ d = .bool true := by
  unfold S_same at h
  split at h
  · rename_i a b
    split at h
    · rename_i c
      exact ⟨a, by rw [c.1], c.2, (Option.some.inj h).symm⟩
    · cases h
  · cases h
def twin (x : D) : D := .tuple [x, x]
def sameN (s : List D) : List D := match s.getLast? with
  | some x => s.dropLast ++ kidsOf x
  | none => s
theorem sameN_app (ys : List D) (x : D) : sameN (ys ++ [x]) = ys ++ kidsOf x := by
  unfold sameN
  simp
theorem kids_sz (x : D) : pszs (kidsOf x) < psz x := by cases x <;> simp [kidsOf, psz, pszs]
theorem kids_sh {x : D} (h : shal 10 x = true) : (kidsOf x).all (shal 10) = true := by
  cases x with
  | list xs => exact shals_mono xs (n := 9) (by decide) h
  | tuple xs => exact shals_mono xs (n := 9) (by decide) h
  | _ => rfl
theorem sh12 {x : D} (h : shal 10 x = true) : shal 11 (twin x) = true := by
  show [x, x].all (shal 10) = true
  simp [h]
theorem sh_pairs {s : List D} (h : s.all (shal 10) = true) : sh (.list (s.map twin)) = true := by
  refine shal_mono _ (n := 12) (by decide) ?_
  show (s.map twin).all (shal 11) = true
  rw [List.all_eq_true] at h ⊢
  intro d hd
  obtain ⟨x, hx, rfl⟩ := List.mem_map.mp hd
  exact sh12 (h x hx)
theorem ne_nil {s : List D} (h : s.all (shal 10) = true) : dCmp .ne (.list (s.map twin)) (.list []) = some (!s.isEmpty) := by
  show (if (sh (.list (s.map twin)) && sh (.list [])) = true then some (!PyData.eqv (.list (s.map twin)) (.list [])) else none) = _
  rw [sh_pairs h]
  cases s <;> rfl
theorem ne_self {d : D} (h : shal 10 d = true) (hs : dCmp .eq d d = some true) : dCmp .ne d d = some false := by
  unfold dCmp at hs ⊢
  simp only at hs ⊢
  split at hs
  · rename_i c
    rw [if_pos c]
    have := Option.some.inj hs
    rw [this]
    rfl
  · cases hs
end PV

set_option maxHeartbeats 4000000
/-! PV: two-clause comprehensions, membership, loops with a break, what is sorted. -/
namespace PV
open PySem PySem.W PyProof.Rows
section
variable {C : Nat → Option D} {F G : Nat → List D → Option D} {ρ : Env}
noncomputable def oSrc (C : Nat → Option D) (F G : Nat → List D → Option D) (p : Pat) (t : E) (own1 : List Nat) (s1 : Src) (ρb : Env) (d : D) : Option (Option (Env × List D)) := (bindP p d ρb).bind fun ρ1 => (ev optM C F G t ρ1).bind fun x => (bool? x).bind fun b => if b = true then (evS optM C F G s1 ρ1).bind fun zs => some (some (wip own1 ρ1, zs)) else some none
@[simp] theorem o_comp2 {own own1 : List Nat} {p p1 : Pat} {s s1 : Src} {t t1 elt : E} : ev optM C F G (.comp2 own own1 p s t p1 s1 t1 elt) ρ = (evS optM C F G s ρ).bind fun xs => (compLL optM (oSrc C F G p t own1 s1 (wip own ρ)) (oStep C F G p1 t1 elt) [] xs).bind fun ys => some (.list ys) := by
  conv => { lhs; unfold ev }
  simp
  rfl
end
theorem compL_len {g : D → Option (Option D)} : ∀ {xs ys : List D}, compL optM g xs = some ys → ys.length ≤ xs.length
  | [], ys, h => by
    unfold compL at h
    cases h
    exact Nat.le_refl _
  | x :: xs, ys, h => by
    unfold compL at h
    rw [o_bind] at h
    cases hx : g x with
    | none => rw [hx] at h; cases h
    | some o =>
      rw [hx] at h
      cases hr : compL optM g xs with
      | none => rw [Option.bind_some, hr] at h; cases h
      | some zs =>
        have := compL_len hr
        rw [Option.bind_some, hr] at h
        cases o with
        | none => cases h; simp; omega
        | some y => cases h; simp; omega
theorem compLL_all {α β : Type} {src : D → Option (Option (Env × List D))} {g : Env → D → Option (Option D)} {e : α → D} {e' : β → D} {ρ : α → Env} {bs : α → List β} {ys : α → List D} : ∀ (xs : List α) (acc : List D),
    (∀ a ∈ xs, src (e a) = some (some (ρ a, (bs a).map e'))) → (∀ a ∈ xs, compL optM (g (ρ a)) ((bs a).map e') = some (ys a)) → acc.length + (xs.map fun a => (bs a).length).sum ≤ LINE →
    compLL optM src g acc (xs.map e) = some (acc ++ xs.flatMap ys)
  | [], acc, _, _, _ => by
    unfold compLL
    simp
  | a :: xs, acc, h1, h2, hl => by
    rw [List.map_cons, List.sum_cons] at hl
    have hc := h2 a (by simp)
    have hlen := compL_len hc
    rw [List.length_map] at hlen
    have ih := compLL_all xs (acc ++ ys a) (fun b hb => h1 b (by simp [hb])) (fun b hb => h2 b (by simp [hb])) (by rw [List.length_append]; omega)
    rw [List.map_cons]
    unfold compLL
    rw [o_bind, h1 a (by simp)]
    show (if acc.length + ((bs a).map e').length ≤ LINE then optM.bind (compL optM (g (ρ a)) ((bs a).map e')) fun ys => compLL optM src g (acc ++ ys) (xs.map e) else optM.fail) = _
    rw [if_pos (by rw [List.length_map]; omega), hc]
    show compLL optM src g (acc ++ ys a) (xs.map e) = _
    rw [ih, List.flatMap_cons, List.append_assoc]
section
variable {α : Type} [DecidableEq α] {c : Cod α} {n : Nat}
theorem any_in (h : CodOk c n) (x : α) (xs : List α) : (xs.map c.enc).any (fun y => PyData.eqv y (c.enc x)) = decide (x ∈ xs) := by
  induction xs with
  | nil => simp
  | cons y ys ih =>
    rw [List.map_cons, List.any_cons, ih, h.eqd]
    by_cases e : y = x
    · simp [e]
    · have e2 : ¬ x = y := fun q => e q.symm
      simp [e, e2]
theorem d_in_t (h : CodOk c n) (hn : n ≤ 20) (x : α) (xs : List α) : dCmp .in_ (c.enc x) (.tuple (xs.map c.enc)) = some (decide (x ∈ xs)) := by
  show (if (sh (c.enc x) && shs (xs.map c.enc)) = true then some ((xs.map c.enc).any fun y => PyData.eqv y (c.enc x)) else none) = _
  rw [h.sh20 hn, h.shs20 hn, any_in h]
  rfl
theorem d_in_l (h : CodOk c n) (hn : n ≤ 20) (x : α) (xs : List α) : dCmp .in_ (c.enc x) (.list (xs.map c.enc)) = some (decide (x ∈ xs)) := d_in_t h hn x xs
theorem d_ni_t (h : CodOk c n) (hn : n ≤ 20) (x : α) (xs : List α) : dCmp .notin (c.enc x) (.tuple (xs.map c.enc)) = some (!decide (x ∈ xs)) := by
  show (dIn (c.enc x) (.tuple (xs.map c.enc))).map (!·) = _
  rw [show dIn (c.enc x) (.tuple (xs.map c.enc)) = some (decide (x ∈ xs)) from d_in_t h hn x xs]
  rfl
theorem d_ni_l (h : CodOk c n) (hn : n ≤ 20) (x : α) (xs : List α) : dCmp .notin (c.enc x) (.list (xs.map c.enc)) = some (!decide (x ∈ xs)) := d_ni_t h hn x xs
end
/-- a for that a break ends -/
theorem forL_brk {τ : Type} {g : D → Env → Option Fl} {ρ0 : Env} (st : τ → Env) (nxt : τ → τ) (c : τ → Bool) (I : τ → Prop) (h : ∀ s d, I s → (c s = true → (∃ ρ', g d (st s) = some (.nx ρ') ∧ msk ρ0 ρ' = st (nxt s)) ∧ I (nxt s)) ∧ (c s = false → ∃ ρ', g d (st s) = some (.bk ρ') ∧ msk ρ0 ρ' = st s)) :
    ∀ (xs : List D) (s : τ), I s → forL optM g ρ0 xs (st s) = some (.nx (st (loopN nxt c xs.length s)))
  | [], s, _ => by unfold forL; rfl
  | x :: xs, s, hI => by
    unfold forL
    rw [o_bind, List.length_cons]
    unfold loopN
    cases hc : c s with
    | true =>
      obtain ⟨⟨ρ', h1, h2⟩, h3⟩ := (h s x hI).1 hc
      rw [h1, if_pos rfl]
      show forL optM g ρ0 xs (msk ρ0 ρ') = _
      rw [h2]
      exact forL_brk st nxt c I h xs (nxt s) h3
    | false =>
      obtain ⟨ρ', h1, h2⟩ := (h s x hI).2 hc
      rw [h1, if_neg (by simp)]
      show some (Fl.nx (msk ρ0 ρ')) = _
      rw [h2]
theorem bools_map : ∀ bs : List Bool, bools? (bs.map .bool) = some bs
  | [] => rfl
  | b :: bs => by simp [bools?, bools_map bs]
theorem i_allf {α : Type} {xs : List α} {f : α → Bool} : dBi .all (.list (xs.map fun x => .bool (f x))) = some (.bool (xs.all f)) := by
  have e : xs.map (fun x => PyData.bool (f x)) = (xs.map f).map .bool := by rw [List.map_map]; rfl
  rw [e]
  show (bools? ((xs.map f).map .bool)).map _ = _
  rw [bools_map]
  simp
theorem i_anyf {α : Type} {xs : List α} {f : α → Bool} : dBi .any (.list (xs.map fun x => .bool (f x))) = some (.bool (xs.any f)) := by
  have e : xs.map (fun x => PyData.bool (f x)) = (xs.map f).map .bool := by rw [List.map_map]; rfl
  rw [e]
  show (bools? ((xs.map f).map .bool)).map _ = _
  rw [bools_map]
  simp
@[simp] theorem c_isn {d : D} : dCmp .is_ d .none = some (isN d) := by cases d <;> rfl
@[simp] theorem isN_none : isN .none = true := rfl
@[simp] theorem isN_int {i : Int} : isN (.int i) = false := rfl
def cOpt : Cod (Option Nat) where
  enc
    | none => .none
    | some n => .int n
  dec
    | .none => some none
    | .int i => if 0 ≤ i then some (some i.toNat) else none
    | _ => none
  he o := by cases o <;> simp
  hd d o h := by
    cases d <;> simp at h
    · subst h; rfl
    · obtain ⟨h1, h2⟩ := h
      subst h2
      simp [Int.toNat_of_nonneg h1]
/-! what is sorted -/
theorem lt_irr (d : D) : dataLt d d = false := dataLt_self d
section
variable {α : Type} {c : Cod α} {n : Nat}
theorem dSort_is (h : CodOk c n) (hn : n ≤ 20) {l l' : List α} (hs : l.length ≤ 1 ∨ sortable (l.map c.enc) = true) (hp : l'.Perm l) (ho : l'.Pairwise fun a b => dataLt (c.enc b) (c.enc a) = false) : dSort (l.map c.enc) = some (l'.map c.enc) := by
  have T := sortLe_total (listOrd itemOrd) false fun b : D => keyToks (id b)
  obtain ⟨z, e, pz⟩ := dSort_of h hn hs
  have hz : z.Pairwise fun a b => dataLt (c.enc b) (c.enc a) = false := by
    by_cases hl : l.length ≤ 1
    · have : z.length ≤ 1 := by rw [pz.length_eq]; exact hl
      match z, this with
      | [], _ => exact List.Pairwise.nil
      | [a], _ => exact List.pairwise_singleton _ _
    · have h2 : dSort (l.map c.enc) = some ((l.map c.enc).mergeSort (dataLe false id)) := by
        unfold dSort at e ⊢
        rw [if_neg (by simp; omega)] at e ⊢
        split at e
        · rename_i q
          rw [if_pos q]
        · cases e
      rw [h2] at e
      have e := Option.some.inj e
      have pw := List.pairwise_mergeSort (le := dataLe false (id : D → D)) T.trans (fun a b => by rw [Bool.or_eq_true]; exact T.total a b) (l.map c.enc)
      rw [e, List.pairwise_map] at pw
      refine pw.imp fun {a b} q => ?_
      rw [dataLe_eq] at q
      simpa using q
  have : z = l' := List.Perm.eq_of_pairwise (le := fun a b => dataLt (c.enc b) (c.enc a) = false) (fun a b _ _ h1 h2 => lt_anti h h2 h1) hz ho (pz.trans hp.symm)
  rw [e, this]
/-- the least of what is sorted stands first -/
theorem dSort_min (h : CodOk c n) (hn : n ≤ 20) {l : List α} (ne : l ≠ []) (hs : l.length ≤ 1 ∨ sortable (l.map c.enc) = true) : ∃ m r, dSort (l.map c.enc) = some (c.enc m :: r) ∧ dMin (l.map c.enc) = some (c.enc m) ∧ m ∈ l := by
  have T := sortLe_total (listOrd itemOrd) false fun b : D => keyToks (id b)
  obtain ⟨m, h1, h2, h3⟩ := dMin_of h hn ne
  obtain ⟨z, e, pz⟩ := dSort_of h hn hs
  cases z with
  | nil =>
    have := pz.length_eq
    cases l with
    | nil => exact absurd rfl ne
    | cons => simp at this
  | cons a r =>
    have ha : a ∈ l := pz.mem_iff.mp (by simp)
    have hm : m ∈ a :: r := pz.mem_iff.mpr h1
    have le : dataLt (c.enc m) (c.enc a) = false := by
      by_cases hl : l.length ≤ 1
      · have : (a :: r).length ≤ 1 := by rw [pz.length_eq]; exact hl
        have hr : r = [] := by cases r <;> simp at this ⊢
        rw [hr] at hm
        have : m = a := by simpa using hm
        rw [this]
        exact lt_irr _
      · have hd : dSort (l.map c.enc) = some ((l.map c.enc).mergeSort (dataLe false id)) := by
          unfold dSort at e ⊢
          rw [if_neg (by simp; omega)] at e ⊢
          split at e
          · rename_i q
            rw [if_pos q]
          · cases e
        rw [hd] at e
        have e := Option.some.inj e
        have pw := List.pairwise_mergeSort (le := dataLe false (id : D → D)) T.trans (fun a b => by rw [Bool.or_eq_true]; exact T.total a b) (l.map c.enc)
        rw [e, List.map_cons, List.pairwise_cons] at pw
        rcases List.mem_cons.mp hm with q | q
        · rw [q]
          exact lt_irr _
        · have := pw.1 (c.enc m) (List.mem_map_of_mem q)
          rw [dataLe_eq] at this
          simpa using this
    have : a = m := lt_anti h (h3 a ha) le
    subst this
    exact ⟨a, r.map c.enc, by rw [e, List.map_cons], h2, h1⟩
end
end PV

set_option maxHeartbeats 4000000
/-! PV: constants of the module; loops by index; what is often asked of codecs. -/
namespace PV
open PySem PyProof.Rows L2
/-- a constant of the module: two numbers -/
theorem glob_2 {K : PySem.W.Frag} {mg : Str → Option Value} {x : Str} {f : Addr} {od : Option Addr} {i j : Int} {ti tj : Tok} {n : Nat} {sl : Array (Option Value)} (hm : mg x = some (.ref f)) (l : K.lookup f = some ⟨.type "tuple", od, .seq #[.int i ti, .int j tj] n, sl⟩) :
    ∃ v u d, mg x = some u ∧ RelV v u ∧ (some (PyData.tuple [.int i, .int j])) = some d ∧ ∀ H, Rp K H v d :=
  ⟨.ref f, .ref f, _, hm, rfl, rfl, fun H => .tup (.inr ⟨_, #[.int i ti, .int j tj], n, l, rfl, rfl, by show 2 ≤ sizeLine; decide, .cons (show RelV (.int i) (.int i ti) from ⟨ti, rfl⟩) (.cons (show RelV (.int j) (.int j tj) from ⟨tj, rfl⟩) .nil)⟩) (.cons (.int i) (.cons (.int j) .nil))⟩
section
variable {α : Type} {c : Cod α} {n : Nat}
theorem ne_self_c (h : CodOk c n) (hn : n ≤ 20) (x : α) : dCmp .ne (c.enc x) (c.enc x) = some false := by
  classical
  rw [d_ne h hn]
  simp
theorem eq_self_c (h : CodOk c n) (hn : n ≤ 20) (x : α) : dCmp .eq (c.enc x) (c.enc x) = some true := by
  classical
  rw [d_eq h hn]
  simp
theorem ne_nil_c (h : CodOk c n) (hn : n < 20) (xs : List α) : dCmp .ne (.list (xs.map c.enc)) (.list []) = some (!xs.isEmpty) := by
  classical
  rw [show PyData.list (xs.map c.enc) = (cL c).enc xs from rfl, show PyData.list [] = (cL c).enc [] from rfl, d_ne (ok_L h) (by omega)]
  cases xs <;> simp
theorem eq_nil_c (h : CodOk c n) (hn : n < 20) (xs : List α) : dCmp .eq (.list (xs.map c.enc)) (.list []) = some xs.isEmpty := by
  classical
  rw [show PyData.list (xs.map c.enc) = (cL c).enc xs from rfl, show PyData.list [] = (cL c).enc [] from rfl, d_eq (ok_L h) (by omega)]
  cases xs <;> simp
end
theorem rng_nat (n : Nat) : rng 0 (n : Int) = (List.range n).map cNat.enc := by
  rw [rng_map, show ((n : Int) - 0).toNat = n by omega]
  exact List.map_congr_left fun k _ => by simp
theorem rng_1 (n : Nat) : rng 1 ((n : Int) + 1) = (List.range n).map fun (k : Nat) => PyData.int ((k : Int) + 1) := by
  rw [rng_map, show ((n : Int) + 1 - 1).toNat = n by omega]
  exact List.map_congr_left fun k _ => by rw [Int.add_comm]
theorem okR_nat {n : Nat} (h : n ≤ 1000) : okR 0 (n : Int) = true := by unfold okR LINE; exact decide_eq_true (by omega)
theorem okR_1 {n : Nat} (h : n ≤ 1000) : okR 1 ((n : Int) + 1) = true := by unfold okR LINE; exact decide_eq_true (by omega)
theorem slot_enc {α : Type} {c : Cod α} (h : ∀ x, ∃ ds, c.enc x = .tuple ds) (e : E) (x : α) : slotOf e (c.enc x) = .sh (c.enc x) := by
  obtain ⟨ds, q⟩ := h x
  rw [q]
  exact slot_tup
theorem Wr.call {T : Nat → List D → Option D} {f : Nat} {ds : List D} {v : D} {Q : D → Prop} (h : T f ds = some v) (q : Wr (Q v)) : Wr ((fun n ds => ofO (T n ds) : Nat → List D → W D) f ds Q) := Wr.mk ⟨v, h, q.out⟩
/-- a loop, by the turn -/
theorem forL_idx {α : Type} {g : D → Env → Option Fl} {ρ0 : Env} (e : α → D) (st : Nat → Env) : ∀ (xs : List α) (s : Nat),
    (∀ k (hk : k < xs.length), ∃ ρ', g (e xs[k]) (st (s + k)) = some (.nx ρ') ∧ msk ρ0 ρ' = st (s + k + 1)) → forL optM g ρ0 (xs.map e) (st s) = some (.nx (st (s + xs.length)))
  | [], s, _ => by unfold forL; rfl
  | x :: xs, s, h => by
    obtain ⟨ρ', h1, h2⟩ := h 0 (by simp)
    rw [List.map_cons]
    unfold forL
    have h1 : g (e x) (st s) = some (.nx ρ') := h1
    rw [o_bind, h1]
    show forL optM g ρ0 (xs.map e) (msk ρ0 ρ') = _
    have h2 : msk ρ0 ρ' = st (s + 1) := h2
    rw [h2, forL_idx e st xs (s + 1) fun k hk => by
      have := h (k + 1) (by simp; omega)
      rw [show s + 1 + k = s + (k + 1) by omega]
      exact this, List.length_cons, show s + 1 + xs.length = s + (xs.length + 1) by omega]
/-- a loop over numbers from 0 on -/
theorem forL_rng {g : D → Env → Option Fl} {ρ0 : Env} (st : Nat → Env) (n : Nat) (h : ∀ k, k < n → ∃ ρ', g (.int k) (st k) = some (.nx ρ') ∧ msk ρ0 ρ' = st (k + 1)) : forL optM g ρ0 ((List.range n).map cNat.enc) (st 0) = some (.nx (st n)) := by
  have key := forL_idx (g := g) (ρ0 := ρ0) cNat.enc st (List.range n) 0 fun k hk => by
    rw [List.length_range] at hk
    obtain ⟨ρ', h1, h2⟩ := h k hk
    refine ⟨ρ', ?_, ?_⟩
    · rw [List.getElem_range, Nat.zero_add]
      exact h1
    · rw [Nat.zero_add]
      exact h2
  rw [List.length_range, Nat.zero_add] at key
  exact key
/-- a row picked out of a list or a tuple -/
def gPick2 : List D → W D := fun ds R => ∃ xs : List D, (ds = [.list xs] ∨ ds = [.tuple xs]) ∧ 0 < xs.length ∧ ∀ x ∈ xs, R x
theorem Wr.pick2 {xs : List D} {Q : D → Prop} (h0 : xs ≠ []) (h : ∀ x ∈ xs, Wr (Q x)) : Wr (gPick2 [.list xs] Q) := Wr.mk ⟨xs, .inl rfl, List.length_pos_iff.mpr h0, fun x hx => (h x hx).out⟩
theorem Wr.pick2t {xs : List D} {Q : D → Prop} (h0 : xs ≠ []) (h : ∀ x ∈ xs, Wr (Q x)) : Wr (gPick2 [.tuple xs] Q) := Wr.mk ⟨xs, .inr rfl, List.length_pos_iff.mpr h0, fun x hx => (h x hx).out⟩
section
variable {PG : Program} {W0 : World} {K : PySem.W.Frag} {mg : Str → Option Value} {base : Heap} {k j : Nat} {x : Str} {st : Stmt} {N ps : List Str}
/-- a def by another table than its own promise (one that calls itself) -/
theorem mk_pureR {C : Nat → Option D} {T : Nat → List D → Option D} {GG : Nat → List D → W D} {fs : List (Nat × Str × Nat × Bool)} {gl : List (Nat × Str)} (h : Has K mg x st) (hbd : Bnd x st ps) (m : Md PG W0 K mg base ⟨C, fun n ds => ofO (T n ds), GG, none, 1000⟩ fs gl k) (S : FnScope N ps (defScope st)) (hps : ps.length ≤ N.length) {b : Ss}
    (hc : chkSs ⟨N, defScope st, defScope st, 1000, fs, gl⟩ b (defBody st) = true) {g : List D → Option D} (hr : ∀ ds d, g ds = some d → run optM C T (fun _ _ => none) N.length b ds = some d) : DefOk PG W0 K mg base (k + 1) x (spF ps.length (fun ds => ofO (g ds)) K) := by
  obtain ⟨a, fd, h1, h2, F⟩ := h
  refine ⟨a, fd, ps, h1, h2, F.binds hbd, fn_pure m rfl F S hps hc fun ds R q => ?_⟩
  obtain ⟨d, hd, q⟩ := q
  exact gv_run (fun n ds => gv_ofO _) (fun n ds => gv_none) N.length b ds d (hr ds d hd) R q
/-- no promise at all -/
theorem mk_vac (h : Has K mg x st) (hbd : Bnd x st ps) : DefOk PG W0 K mg base k x (spF ps.length (fun _ => ofO none) K) := by
  obtain ⟨a, fd, h1, h2, F⟩ := h
  refine ⟨a, fd, ps, h1, h2, F.binds hbd, ⟨fun vs H Q E h => h.1, fun A outer s H args us vs Q E hr he hb hv hs => ?_⟩⟩
  obtain ⟨_, _, _, _, _, _, ⟨_, q, _⟩, _⟩ := hs
  cases q
end
end PV

set_option maxHeartbeats 4000000
/-! PV: fractions in least terms, more. -/
namespace PV
open PySem
theorem cop_dvd {u a b : Int} (h : Int.gcd u a = 1) (h2 : u ∣ a * b) : u ∣ b := by
  have e : Int.gcd (u * b) (a * b) = b.natAbs := by rw [Int.gcd_mul_right, h, Nat.one_mul]
  have h7 : u ∣ (Int.gcd (u * b) (a * b) : Int) := Int.dvd_coe_gcd (Int.dvd_mul_of_dvd_left (Int.dvd_refl u)) h2
  rw [e] at h7
  exact Int.dvd_natAbs.mp h7
theorem pos_left {c q : Int} (h : 0 < c * q) (hq : 0 < q) : 0 < c := by
  by_cases h1 : 0 < c
  · exact h1
  · have : c * q ≤ 0 * q := Int.mul_le_mul_of_nonneg_right (by omega) (Int.le_of_lt hq)
    omega
structure Red (p : Int × Int) : Prop where
  pos : 0 < p.2
  cop : Int.gcd p.1 p.2 = 1
theorem fr_red {a b : Int} (h : 0 < b) : Red (fr a b) := by
  have hg := gcd_pos (a := a) h
  have e1 := fdiv_dvd hg (Int.gcd_dvd_left .. : (Int.gcd a b : Int) ∣ a)
  have e2 := fdiv_dvd hg (Int.gcd_dvd_right .. : (Int.gcd a b : Int) ∣ b)
  refine ⟨(fr_rep h).pos, ?_⟩
  have key : Int.gcd ((fr a b).1 * (Int.gcd a b : Int)) ((fr a b).2 * (Int.gcd a b : Int)) = Int.gcd (fr a b).1 (fr a b).2 * Int.gcd a b := by
    rw [Int.gcd_mul_right]
    simp
  have e3 : (fr a b).1 * (Int.gcd a b : Int) = a := e1
  have e4 : (fr a b).2 * (Int.gcd a b : Int) = b := e2
  rw [e3, e4] at key
  have hg' : 0 < Int.gcd a b := by omega
  have : 1 * Int.gcd a b = Int.gcd (fr a b).1 (fr a b).2 * Int.gcd a b := by rw [← key, Nat.one_mul]
  exact (Nat.eq_of_mul_eq_mul_right hg' this).symm
theorem red_one (a : Int) : Red (a, 1) := ⟨Int.one_pos, by simp⟩
theorem FR.dvd {p : Int × Int} {a b : Int} (h : FR p a b) (r : Red p) : p.2 ∣ b := by
  have h1 : p.2 ∣ p.1 * b := ⟨a, by rw [h.eq, Int.mul_comm]⟩
  exact cop_dvd (by rw [Int.gcd_comm]; exact r.cop) h1
theorem FR.le {p : Int × Int} {a b : Int} (h : FR p a b) (r : Red p) : p.2 ≤ b := Int.le_of_dvd h.pos2 (h.dvd r)
theorem FR.uniq {p q : Int × Int} {a b c d : Int} (h : FR p a b) (r : Red p) (h' : FR q c d) (r' : Red q) (e : a * d = c * b) : p = q := by
  have key : p.1 * q.2 = q.1 * p.2 := by
    have bd : b * d ≠ 0 := Int.ne_of_gt (Int.mul_pos h.pos2 h'.pos2)
    refine Int.eq_of_mul_eq_mul_right bd ?_
    rw [show p.1 * q.2 * (b * d) = (p.1 * b) * (q.2 * d) by ac_rfl, h.eq, show q.1 * p.2 * (b * d) = (q.1 * d) * (p.2 * b) by ac_rfl, h'.eq]
    rw [show a * p.2 * (q.2 * d) = (a * d) * (p.2 * q.2) by ac_rfl, e]
    ac_rfl
  have d1 : p.2 ∣ q.2 := cop_dvd (a := p.1) (by rw [Int.gcd_comm]; exact r.cop) ⟨q.1, by rw [key, Int.mul_comm]⟩
  have d2 : q.2 ∣ p.2 := cop_dvd (a := q.1) (by rw [Int.gcd_comm]; exact r'.cop) ⟨p.1, by rw [← key, Int.mul_comm]⟩
  have e2 : p.2 = q.2 := Int.le_antisymm (Int.le_of_dvd r'.pos d1) (Int.le_of_dvd r.pos d2)
  have e1 : p.1 = q.1 := by
    rw [e2] at key
    exact Int.eq_of_mul_eq_mul_right (Int.ne_of_gt r'.pos) key
  exact Prod.ext e1 e2
theorem fr_self {p : Int × Int} (r : Red p) : fr p.1 p.2 = p := by
  unfold fr
  rw [r.cop]
  exact Prod.ext (by simp) (by simp)
theorem FR.refl {p : Int × Int} (r : Red p) : FR p p.1 p.2 := ⟨r.pos, r.pos, rfl⟩
theorem FR.mul {p q : Int × Int} {a b c d : Int} (h : FR p a b) (h' : FR q c d) : FR (fr (p.1 * q.1) (p.2 * q.2)) (a * c) (b * d) := by
  have r := fr_rep (a := p.1 * q.1) (Int.mul_pos h.pos h'.pos)
  generalize fr (p.1 * q.1) (p.2 * q.2) = z at r ⊢
  refine ⟨r.pos, Int.mul_pos h.pos2 h'.pos2, ?_⟩
  have pq : p.2 * q.2 ≠ 0 := Int.ne_of_gt (Int.mul_pos h.pos h'.pos)
  refine Int.eq_of_mul_eq_mul_right pq ?_
  rw [show z.1 * (b * d) * (p.2 * q.2) = z.1 * (p.2 * q.2) * (b * d) by ac_rfl, r.eq]
  rw [show p.1 * q.1 * z.2 * (b * d) = (p.1 * b) * (q.1 * d) * z.2 by ac_rfl, h.eq, h'.eq]
  ac_rfl
theorem FR.num_pos {q : Int × Int} {c d : Int} (h : FR q c d) : 0 < q.1 ↔ 0 < c := by
  have h1 := h.eq
  constructor
  · intro hq
    have : 0 < c * q.2 := by rw [← h1]; exact Int.mul_pos hq h.pos2
    exact pos_left this h.pos
  · intro hc
    have : 0 < q.1 * d := by rw [h1]; exact Int.mul_pos hc h.pos
    exact pos_left this h.pos2
theorem FR.div {p q : Int × Int} {a b c d : Int} (h : FR p a b) (h' : FR q c d) (hc : 0 < c) : FR (fr (p.1 * q.2) (p.2 * q.1)) (a * d) (b * c) := by
  have hq := h'.num_pos.mpr hc
  exact h.mul (q := (q.2, q.1)) (c := d) (d := c) ⟨hq, hc, by simp only; rw [Int.mul_comm q.2 c, ← h'.eq, Int.mul_comm]⟩
/-- what the divisor of a sum's parts may be -/
theorem gcd_sum {x y b d : Int} (hb : Int.gcd x b = 1) (hd : Int.gcd y d = 1) : Int.gcd (x * d + y * b) (b * d) ∣ Int.gcd b d * Int.gcd b d := by
  -- g divides b * d and x d + y b
  have g1 : (Int.gcd (x * d + y * b) (b * d) : Int) ∣ x * d + y * b := Int.gcd_dvd_left ..
  have g2 : (Int.gcd (x * d + y * b) (b * d) : Int) ∣ b * d := Int.gcd_dvd_right ..
  generalize hg : (Int.gcd (x * d + y * b) (b * d) : Int) = g at g1 g2
  -- g divides b² y and d² x, hence with the coprimes b², d²
  have h1 : g ∣ y * (b * b) := by
    have : y * (b * b) = (x * d + y * b) * b - x * (b * d) := by
      rw [Int.add_mul, show x * (b * d) = x * d * b by ac_rfl, show y * b * b = y * (b * b) by ac_rfl]
      omega
    rw [this]
    exact Int.dvd_sub (Int.dvd_mul_of_dvd_left g1) (Int.dvd_mul_of_dvd_right g2)
  have h2 : g ∣ x * (d * d) := by
    have : x * (d * d) = (x * d + y * b) * d - y * (b * d) := by
      rw [Int.add_mul, show y * b * d = y * (b * d) by ac_rfl, show x * d * d = x * (d * d) by ac_rfl]
      omega
    rw [this]
    exact Int.dvd_sub (Int.dvd_mul_of_dvd_left g1) (Int.dvd_mul_of_dvd_right g2)
  have h3 : g ∣ d * (b * b) := by rw [show d * (b * b) = (b * d) * b by ac_rfl]; exact Int.dvd_mul_of_dvd_left g2
  have h4 : g ∣ b * (d * d) := by rw [show b * (d * d) = (b * d) * d by ac_rfl]; exact Int.dvd_mul_of_dvd_left g2
  have comb : ∀ {u v m : Int}, Int.gcd u v = 1 → g ∣ u * m → g ∣ v * m → g ∣ m := fun {u v m} huv h5 h6 => by
    have : Int.gcd (u * m) (v * m) = m.natAbs := by rw [Int.gcd_mul_right, huv, Nat.one_mul]
    have h7 : g ∣ (Int.gcd (u * m) (v * m) : Int) := Int.dvd_coe_gcd h5 h6
    rw [this] at h7
    exact Int.dvd_natAbs.mp h7
  have k1 : g ∣ b * b := comb hd h1 h3
  have k2 : g ∣ d * d := comb hb h2 h4
  have k3 : g ∣ (Int.gcd (b * b) (d * d) : Int) := Int.dvd_coe_gcd k1 k2
  have k4 : Int.gcd (b * b) (d * d) = Int.gcd b d * Int.gcd b d := by
    have := Int.pow_gcd_pow (m := d) (n := b) (k := 2)
    simp only [Int.pow_succ, Int.pow_zero, Int.one_mul, Nat.pow_succ, Nat.pow_zero, Nat.one_mul] at this
    exact this
  rw [k4] at k3
  rw [← hg] at k3
  exact Int.ofNat_dvd.mp (by simpa using k3)
theorem FR.scale {p : Int × Int} {a b k : Int} (h : FR p (a * k) (b * k)) (hk : 0 < k) : FR p a b := by
  have hb : 0 < b := pos_left h.pos2 hk
  refine ⟨h.pos, hb, ?_⟩
  refine Int.eq_of_mul_eq_mul_right (Int.ne_of_gt hk) ?_
  rw [Int.mul_assoc, h.eq]
  ac_rfl
theorem FR.scale_up {p : Int × Int} {a b k : Int} (h : FR p a b) (hk : 0 < k) : FR p (a * k) (b * k) := by
  refine ⟨h.pos, Int.mul_pos h.pos2 hk, ?_⟩
  rw [← Int.mul_assoc, h.eq]
  ac_rfl
theorem FR.num_le {p : Int × Int} {a b m : Int} (h : FR p a b) (r : Red p) (ha : a.natAbs ≤ m) : (p.1.natAbs : Int) ≤ m := by
  have h1 : p.1.natAbs * b.natAbs = a.natAbs * p.2.natAbs := by rw [← Int.natAbs_mul, h.eq, Int.natAbs_mul]
  have h2 := h.le r
  have h3 := h.pos
  have h4 : p.1.natAbs * p.2.natAbs ≤ a.natAbs * p.2.natAbs := by
    rw [← h1]
    exact Nat.mul_le_mul_left _ (by omega)
  have := Nat.le_of_mul_le_mul_right h4 (by omega)
  omega
/-! sums and the like, with what the model needs -/
def fadd (p q : Int × Int) : Int × Int := fr (p.1 * q.2 + q.1 * p.2) (p.2 * q.2)
def fsub (p q : Int × Int) : Int × Int := fr (p.1 * q.2 - q.1 * p.2) (p.2 * q.2)
def fmul (p q : Int × Int) : Int × Int := fr (p.1 * q.1) (p.2 * q.2)
def fdv (p q : Int × Int) : Int × Int := fr (p.1 * q.2) (p.2 * q.1)
def flt (p q : Int × Int) : Bool := decide (p.1 * q.2 < q.1 * p.2)
def okG (_ b : Int) : Bool := decide (0 < b ∧ b < 2 ^ 190)
def okS (p q : Int × Int) : Bool := small64 p.2 && small64 q.2
theorem okG_of {a b : Int} (h : 0 < b ∧ b < 2 ^ 190) : okG a b = true := decide_eq_true h
def S_frG := spec (A2 cInt cInt) (fun p => okG p.1 p.2) fun p => cF.enc (fr p.1 p.2)
def S_comG := spec (A2 cInt cInt) (fun p => decide (0 < p.2 ∧ p.2 < 2 ^ 190)) fun p => .int (Int.gcd p.1 p.2)
def okAdd (p q : Int × Int) : Bool := okS p q && okG (p.1 * q.2 + q.1 * p.2) (p.2 * q.2)
def okSub (p q : Int × Int) : Bool := okS p q && okG (p.1 * q.2 - q.1 * p.2) (p.2 * q.2)
def okMul (p q : Int × Int) : Bool := okS p q && ((small64 p.1 || small64 q.1) && okG (p.1 * q.1) (p.2 * q.2))
def okDv (p q : Int × Int) : Bool := okS p q && okG (p.1 * q.2) (p.2 * q.1)
def S_add := spec (A2 cF cF) (fun z => okAdd z.1 z.2) fun z => cF.enc (fadd z.1 z.2)
def S_sub := spec (A2 cF cF) (fun z => okSub z.1 z.2) fun z => cF.enc (fsub z.1 z.2)
def S_mul := spec (A2 cF cF) (fun z => okMul z.1 z.2) fun z => cF.enc (fmul z.1 z.2)
def S_dv := spec (A2 cF cF) (fun z => okDv z.1 z.2) fun z => cF.enc (fdv z.1 z.2)
def S_lt := spec (A2 cF cF) (fun z => okS z.1 z.2) fun z => .bool (flt z.1 z.2)
def ftot (xs : List (Int × Int)) : Int × Int := xs.foldl fadd (0, 1)
def okTot : (Int × Int) → List (Int × Int) → Bool
  | _, [] => true
  | a, x :: xs => okAdd a x && okTot (fadd a x) xs
def S_tot := spec (A1 (cL cF)) (fun xs => okTot (0, 1) xs) fun xs => cF.enc (ftot xs)
/-- Euclid's steps -/
theorem euclid (n : Nat) : ∀ (m : Nat) (s : Int × Int), 0 ≤ s.2 → s.2 < 2 ^ m → 2 * m ≤ n → (loopN (fun s : Int × Int => (s.2, s.1.fmod s.2)) (fun s => !decide (s.2 = 0)) n s).2 = 0 ∧ (loopN (fun s : Int × Int => (s.2, s.1.fmod s.2)) (fun s => !decide (s.2 = 0)) n s).1.natAbs = Int.gcd s.1 s.2 := by
  induction n using Nat.strongRecOn with
  | ind n ih =>
    intro m s h0 h1 hn
    have zero : ∀ (n : Nat) (s : Int × Int), s.2 = 0 → loopN (fun s : Int × Int => (s.2, s.1.fmod s.2)) (fun s => !decide (s.2 = 0)) n s = s := fun n s e => by
      cases n with
      | zero => rfl
      | succ n => unfold loopN; rw [if_neg (by simp [e])]
    by_cases e : s.2 = 0
    · rw [zero n s e]
      exact ⟨e, by rw [e, Int.gcd_zero_right]⟩
    · cases m with
      | zero =>
        rw [Int.pow_zero] at h1
        omega
      | succ m =>
        obtain ⟨k, rfl⟩ : ∃ k, n = k + 2 := ⟨n - 2, by omega⟩
        have hpos : 0 < s.2 := by omega
        have f1 := Int.fmod_nonneg_of_pos s.1 hpos
        have f2 := Int.fmod_lt_of_pos s.1 hpos
        have e1 : loopN (fun s : Int × Int => (s.2, s.1.fmod s.2)) (fun s => !decide (s.2 = 0)) (k + 2) s = loopN (fun s : Int × Int => (s.2, s.1.fmod s.2)) (fun s => !decide (s.2 = 0)) (k + 1) (s.2, s.1.fmod s.2) := by
          conv => { lhs; unfold loopN }
          rw [if_pos (by simp [e])]
        have g1 : Int.gcd s.2 (s.1.fmod s.2) = Int.gcd s.1 s.2 := gcd_fmod _ _
        rw [e1, ← g1]
        generalize s.1.fmod s.2 = r at f1 f2
        by_cases er : r = 0
        · rw [zero _ _ (by exact er)]
          exact ⟨er, by rw [er, Int.gcd_zero_right]⟩
        · have rpos : 0 < r := by omega
          have f3 := Int.fmod_nonneg_of_pos s.2 rpos
          have f4 := Int.fmod_lt_of_pos s.2 rpos
          have e2 : loopN (fun s : Int × Int => (s.2, s.1.fmod s.2)) (fun s => !decide (s.2 = 0)) (k + 1) (s.2, r) = loopN (fun s : Int × Int => (s.2, s.1.fmod s.2)) (fun s => !decide (s.2 = 0)) k (r, s.2.fmod r) := by
            conv => { lhs; unfold loopN }
            rw [if_pos (by simp [er])]
          have g2 : Int.gcd r (s.2.fmod r) = Int.gcd s.2 r := gcd_fmod _ _
          rw [e2, ← g2]
          refine ih k (by omega) m (r, s.2.fmod r) f3 ?_ (by omega)
          simp only
          have hd : s.2 = r * s.2.fdiv r + s.2.fmod r := by
            have := Int.fmod_def s.2 r
            omega
          have hq : 1 ≤ s.2.fdiv r := by
            rcases Int.lt_trichotomy 0 (s.2.fdiv r) with q | q | q
            · omega
            · rw [← q, Int.mul_zero] at hd
              omega
            · have : r * s.2.fdiv r ≤ r * (-1) := Int.mul_le_mul_of_nonneg_left (by omega) (by omega)
              omega
          have : r * 1 ≤ r * s.2.fdiv r := Int.mul_le_mul_of_nonneg_left hq (by omega)
          rw [Int.pow_succ] at h1
          omega
end PV

set_option maxHeartbeats 4000000
/-! PV: the greatest of numbers; the least of pairs; the first that is found in order. -/
namespace PV
open PySem PySem.W PyProof.Rows L2
section
variable {α : Type} {c : Cod α} {n : Nat}
theorem alikes_c (h : CodOk c n) (l : List α) : allAlike (l.map c.enc) = true := by
  unfold allAlike
  rw [List.all_eq_true]
  intro d hd
  rw [List.all_eq_true]
  intro d' hd'
  obtain ⟨a, _, rfl⟩ := List.mem_map.mp hd
  obtain ⟨b, _, rfl⟩ := List.mem_map.mp hd'
  exact h.al a b
theorem nns_c (h : CodOk c n) (l : List α) : (l.map c.enc).all (fun d => !isN d) = true := by
  rw [List.all_eq_true]
  intro d hd
  obtain ⟨a, _, rfl⟩ := List.mem_map.mp hd
  rw [h.nn]
  rfl
theorem fold_max2 : ∀ (r : List Int) (a : Int), (r.foldl max a = a ∨ r.foldl max a ∈ r) ∧ a ≤ r.foldl max a ∧ ∀ x ∈ r, x ≤ r.foldl max a
  | [], a => ⟨.inl rfl, Int.le_refl _, by simp⟩
  | y :: r, a => by
    obtain ⟨h1, h2, h3⟩ := fold_max2 r (max a y)
    rw [List.foldl_cons]
    have q1 : a ≤ max a y := by omega
    have q2 : y ≤ max a y := by omega
    refine ⟨?_, by omega, fun x hx => ?_⟩
    · rcases h1 with e | e
      · rcases Int.le_total a y with c | c
        · have : max a y = y := by omega
          exact .inr (List.mem_cons.mpr (.inl (by rw [e, this])))
        · have : max a y = a := by omega
          exact .inl (by rw [e, this])
      · exact .inr (List.mem_cons_of_mem _ e)
    · rcases List.mem_cons.mp hx with rfl | hx
      · omega
      · exact h3 x hx
/-- the greatest of numbers -/
theorem dMax_int {l : List Int} {M : Int} (hm : M ∈ l) (h : ∀ x ∈ l, x ≤ M) : dMax (l.map cInt.enc) = some (.int M) := by
  cases l with
  | nil => cases hm
  | cons x xs =>
    have h1 : shs ((x :: xs).map cInt.enc) = true := ok_int.shs20 (by decide) (x :: xs)
    have h2 := alikes_c ok_int (x :: xs)
    have h3 := nns_c ok_int (x :: xs)
    have e : (x :: xs).map cInt.enc = .int x :: xs.map .int := rfl
    rw [e] at h1 h2 h3 ⊢
    show (if (shs (PyData.int x :: xs.map .int) && (allAlike (PyData.int x :: xs.map .int) && (PyData.int x :: xs.map .int).all (fun d => !isN d))) = true then some (maxD (.int x) (xs.map .int)) else none) = _
    rw [h1, h2, h3, maxD_ints]
    obtain ⟨q1, q2, q3⟩ := fold_max2 xs x
    have hle : xs.foldl max x ≤ M := by
      rcases q1 with q | q
      · rw [q]; exact h x (by simp)
      · exact h _ (by simp [q])
    have hge : M ≤ xs.foldl max x := by
      rcases List.mem_cons.mp hm with rfl | hm
      · exact q2
      · exact q3 M hm
    have : xs.foldl max x = M := by omega
    rw [this]
    rfl
/-- the least, named -/
theorem dMin_is (h : CodOk c n) (hn : n ≤ 20) {l : List α} {m : α} (hm : m ∈ l) (hl : ∀ a ∈ l, dataLt (c.enc a) (c.enc m) = false) : dMin (l.map c.enc) = some (c.enc m) := by
  obtain ⟨m', h1, h2, h3⟩ := dMin_of h hn (l := l) (fun e => by rw [e] at hm; cases hm)
  rw [h2, lt_anti h (hl m' h1) (h3 m hm)]
/-- the least of pairs: by a number, then by the thing -/
theorem dMin_pair (h : CodOk c n) (hn : n < 20) {l : List α} (μ : α → Int) {m : α} (hm : m ∈ l) (hl : ∀ a ∈ l, μ m ≤ μ a) (he : ∀ a ∈ l, μ a = μ m → dataLt (c.enc a) (c.enc m) = false) : dMin (l.map fun a => PyData.tuple [.int (μ a), c.enc a]) = some (.tuple [.int (μ m), c.enc m]) := by
  have h2 : CodOk (c2 cInt c) (n + 1) := ok_2 ok_int h (by omega) (Nat.le_refl _)
  have e : (l.map fun a => PyData.tuple [.int (μ a), c.enc a]) = (l.map fun a => (μ a, a)).map (c2 cInt c).enc := by rw [List.map_map]; rfl
  rw [e]
  refine dMin_is (m := (μ m, m)) h2 (by omega) (List.mem_map.mpr ⟨m, hm, rfl⟩) fun p hp => ?_
  obtain ⟨a, ha, rfl⟩ := List.mem_map.mp hp
  show dataLt (.tuple [.int (μ a), c.enc a]) (.tuple [.int (μ m), c.enc m]) = false
  rw [dataLt_pair (by simp [alike]) (h.al a m), dataLt_int]
  have q := hl a ha
  split
  · rename_i e2
    have e2 : μ a = μ m := by simpa [PyData.eqv] using e2
    split
    · rfl
    · exact he a ha e2
  · simp only [decide_eq_false_iff_not]
    omega
/-- in a row in order: what is found first is the least of those that are so -/
theorem find_least {R : α → α → Prop} (hr : ∀ a, R a a) {p : α → Bool} {l : List α} (hp : l.Pairwise R) {a : α} (hf : l.find? p = some a) : ∀ b ∈ l, p b = true → R a b := by
  obtain ⟨_, as, bs, e, ha⟩ := List.find?_eq_some_iff_append.mp hf
  intro b hb hpb
  rw [e] at hb hp
  rcases List.mem_append.mp hb with hb | hb
  · have := ha b hb
    simp [hpb] at this
  · rcases List.mem_cons.mp hb with rfl | hb
    · exact hr b
    · exact (List.pairwise_cons.mp (List.pairwise_append.mp hp).2.1).1 b hb
end
end PV

set_option maxHeartbeats 4000000
/-! The defs of the law, as core terms. -/
namespace PW
open PySem PyProof.Rows L2 PV

def topS (i : Nat) : Stmt := PySem.Challenge.pw_bondslaid_k36_whole_beams_on_props.main.body.getD i (.Pass ⟨0, 0, 0, 0⟩)
abbrev id_is_number : Nat := 0
abbrev id_is_tuple_of : Nat := 1
abbrev id_common : Nat := 2
abbrev id_is_less : Nat := 3
abbrev id_joined_loads : Nat := 4
abbrev id_turned_beam : Nat := 5
abbrev id_law_draws : Nat := 6
abbrev id_law_next : Nat := 7
abbrev id_law_is_number : Nat := 8
abbrev id_law_is_bit : Nat := 9
abbrev id_law_common : Nat := 10
abbrev id_law_below : Nat := 11
abbrev id_law_lies : Nat := 12
abbrev id_is_from : Nat := 13
abbrev id_fraction : Nat := 14
abbrev id_law_frac : Nat := 15
abbrev id_minus : Nat := 16
abbrev id_times : Nat := 17
abbrev id_is_beam : Nat := 18
abbrev id_middle_of_loads : Nat := 19
abbrev id_law_add : Nat := 20
abbrev id_law_less : Nat := 21
abbrev id_law_mul : Nat := 22
abbrev id_rests : Nat := 23
abbrev id_law_total : Nat := 24
abbrev id_lies : Nat := 25
abbrev id_bends_at : Nat := 26
abbrev id_law_rests : Nat := 27
abbrev id_worst_bend : Nat := 28
abbrev id_most_at : Nat := 29
abbrev id_safe_places : Nat := 30
abbrev id_law_bend : Nat := 31
abbrev id_best_props : Nat := 32
abbrev id_law_worst : Nat := 33
abbrev id_law : Nat := 34
abbrev s_is_number : Stmt := topS 1
abbrev n_is_number : List Str := ["thing"]
theorem sc_is_number : FnScope n_is_number ["thing"] (defScope s_is_number) := ⟨rfl, rfl, rfl, by decide +kernel, rfl, by decide +kernel, by decide +kernel⟩
abbrev s_is_tuple_of : Stmt := topS 3
abbrev n_is_tuple_of : List Str := ["thing", "many"]
theorem sc_is_tuple_of : FnScope n_is_tuple_of ["thing", "many"] (defScope s_is_tuple_of) := ⟨rfl, rfl, rfl, by decide +kernel, rfl, by decide +kernel, by decide +kernel⟩
abbrev s_common : Stmt := topS 4
abbrev n_common : List Str := ["a", "b"]
theorem sc_common : FnScope n_common ["a", "b"] (defScope s_common) := ⟨rfl, rfl, rfl, by decide +kernel, rfl, by decide +kernel, by decide +kernel⟩
abbrev s_is_less : Stmt := topS 8
abbrev n_is_less : List Str := ["one", "other"]
theorem sc_is_less : FnScope n_is_less ["one", "other"] (defScope s_is_less) := ⟨rfl, rfl, rfl, by decide +kernel, rfl, by decide +kernel, by decide +kernel⟩
abbrev s_joined_loads : Stmt := topS 18
abbrev n_joined_loads : List Str := ["loads", "places", "place", "_", "own", "weight"]
theorem sc_joined_loads : FnScope n_joined_loads ["loads"] (defScope s_joined_loads) := ⟨rfl, rfl, rfl, by decide +kernel, rfl, by decide +kernel, by decide +kernel⟩
abbrev s_turned_beam : Stmt := topS 20
abbrev n_turned_beam : List Str := ["beam", "loads", "long", "one", "other", "turned", "place", "weight"]
theorem sc_turned_beam : FnScope n_turned_beam ["beam", "loads"] (defScope s_turned_beam) := ⟨rfl, rfl, rfl, by decide +kernel, rfl, by decide +kernel, by decide +kernel⟩
abbrev s_law_draws : Stmt := topS 22
abbrev n_law_draws : List Str := ["script", "many", "draws", "mixed", "k", "cell", "rest", "turn"]
theorem sc_law_draws : FnScope n_law_draws ["script", "many"] (defScope s_law_draws) := ⟨rfl, rfl, rfl, by decide +kernel, rfl, by decide +kernel, by decide +kernel⟩
abbrev s_law_next : Stmt := topS 23
abbrev n_law_next : List Str := ["w", "many"]
theorem sc_law_next : FnScope n_law_next ["w", "many"] (defScope s_law_next) := ⟨rfl, rfl, rfl, by decide +kernel, rfl, by decide +kernel, by decide +kernel⟩
abbrev s_law_is_number : Stmt := topS 24
abbrev n_law_is_number : List Str := ["thing"]
theorem sc_law_is_number : FnScope n_law_is_number ["thing"] (defScope s_law_is_number) := ⟨rfl, rfl, rfl, by decide +kernel, rfl, by decide +kernel, by decide +kernel⟩
abbrev s_law_is_bit : Stmt := topS 25
abbrev n_law_is_bit : List Str := ["said", "due"]
theorem sc_law_is_bit : FnScope n_law_is_bit ["said", "due"] (defScope s_law_is_bit) := ⟨rfl, rfl, rfl, by decide +kernel, rfl, by decide +kernel, by decide +kernel⟩
abbrev s_law_common : Stmt := topS 26
abbrev n_law_common : List Str := ["a", "b", "turn"]
theorem sc_law_common : FnScope n_law_common ["a", "b"] (defScope s_law_common) := ⟨rfl, rfl, rfl, by decide +kernel, rfl, by decide +kernel, by decide +kernel⟩
abbrev s_law_below : Stmt := topS 31
abbrev n_law_below : List Str := ["one", "other"]
theorem sc_law_below : FnScope n_law_below ["one", "other"] (defScope s_law_below) := ⟨rfl, rfl, rfl, by decide +kernel, rfl, by decide +kernel, by decide +kernel⟩
abbrev s_law_lies : Stmt := topS 34
abbrev n_law_lies : List Str := ["beam", "loads", "whole", "turn", "load", "place", "weight"]
theorem sc_law_lies : FnScope n_law_lies ["beam", "loads"] (defScope s_law_lies) := ⟨rfl, rfl, rfl, by decide +kernel, rfl, by decide +kernel, by decide +kernel⟩
abbrev s_is_from : Stmt := topS 2
abbrev n_is_from : List Str := ["thing", "least"]
theorem sc_is_from : FnScope n_is_from ["thing", "least"] (defScope s_is_from) := ⟨rfl, rfl, rfl, by decide +kernel, rfl, by decide +kernel, by decide +kernel⟩
abbrev s_fraction : Stmt := topS 5
abbrev n_fraction : List Str := ["a", "b", "by"]
theorem sc_fraction : FnScope n_fraction ["a", "b"] (defScope s_fraction) := ⟨rfl, rfl, rfl, by decide +kernel, rfl, by decide +kernel, by decide +kernel⟩
abbrev s_law_frac : Stmt := topS 27
abbrev n_law_frac : List Str := ["a", "b", "by"]
theorem sc_law_frac : FnScope n_law_frac ["a", "b"] (defScope s_law_frac) := ⟨rfl, rfl, rfl, by decide +kernel, rfl, by decide +kernel, by decide +kernel⟩
abbrev s_minus : Stmt := topS 6
abbrev n_minus : List Str := ["one", "other"]
theorem sc_minus : FnScope n_minus ["one", "other"] (defScope s_minus) := ⟨rfl, rfl, rfl, by decide +kernel, rfl, by decide +kernel, by decide +kernel⟩
abbrev s_times : Stmt := topS 7
abbrev n_times : List Str := ["one", "other"]
theorem sc_times : FnScope n_times ["one", "other"] (defScope s_times) := ⟨rfl, rfl, rfl, by decide +kernel, rfl, by decide +kernel, by decide +kernel⟩
abbrev s_is_beam : Stmt := topS 10
abbrev n_is_beam : List Str := ["thing", "one", "other"]
theorem sc_is_beam : FnScope n_is_beam ["thing"] (defScope s_is_beam) := ⟨rfl, rfl, rfl, by decide +kernel, rfl, by decide +kernel, by decide +kernel⟩
abbrev s_middle_of_loads : Stmt := topS 19
abbrev n_middle_of_loads : List Str := ["loads", "whole", "_", "weight", "place"]
theorem sc_middle_of_loads : FnScope n_middle_of_loads ["loads"] (defScope s_middle_of_loads) := ⟨rfl, rfl, rfl, by decide +kernel, rfl, by decide +kernel, by decide +kernel⟩
abbrev s_law_add : Stmt := topS 28
abbrev n_law_add : List Str := ["one", "other"]
theorem sc_law_add : FnScope n_law_add ["one", "other"] (defScope s_law_add) := ⟨rfl, rfl, rfl, by decide +kernel, rfl, by decide +kernel, by decide +kernel⟩
abbrev s_law_less : Stmt := topS 29
abbrev n_law_less : List Str := ["one", "other"]
theorem sc_law_less : FnScope n_law_less ["one", "other"] (defScope s_law_less) := ⟨rfl, rfl, rfl, by decide +kernel, rfl, by decide +kernel, by decide +kernel⟩
abbrev s_law_mul : Stmt := topS 30
abbrev n_law_mul : List Str := ["one", "other"]
theorem sc_law_mul : FnScope n_law_mul ["one", "other"] (defScope s_law_mul) := ⟨rfl, rfl, rfl, by decide +kernel, rfl, by decide +kernel, by decide +kernel⟩
abbrev s_rests : Stmt := topS 11
abbrev n_rests : List Str := ["beam", "loads", "one", "other", "whole", "second", "_", "weight", "place"]
theorem sc_rests : FnScope n_rests ["beam", "loads"] (defScope s_rests) := ⟨rfl, rfl, rfl, by decide +kernel, rfl, by decide +kernel, by decide +kernel⟩
abbrev s_law_total : Stmt := topS 32
abbrev n_law_total : List Str := ["rows", "found", "one"]
theorem sc_law_total : FnScope n_law_total ["rows"] (defScope s_law_total) := ⟨rfl, rfl, rfl, by decide +kernel, rfl, by decide +kernel, by decide +kernel⟩
abbrev s_lies : Stmt := topS 12
abbrev n_lies : List Str := ["beam", "loads", "rest"]
theorem sc_lies : FnScope n_lies ["beam", "loads"] (defScope s_lies) := ⟨rfl, rfl, rfl, by decide +kernel, rfl, by decide +kernel, by decide +kernel⟩
abbrev s_bends_at : Stmt := topS 13
abbrev n_bends_at : List Str := ["beam", "loads", "place", "found", "prop", "rest", "own", "weight"]
theorem sc_bends_at : FnScope n_bends_at ["beam", "loads", "place"] (defScope s_bends_at) := ⟨rfl, rfl, rfl, by decide +kernel, rfl, by decide +kernel, by decide +kernel⟩
abbrev s_law_rests : Stmt := topS 33
abbrev n_law_rests : List Str := ["beam", "loads", "one", "other", "second", "place", "weight", "load"]
theorem sc_law_rests : FnScope n_law_rests ["beam", "loads"] (defScope s_law_rests) := ⟨rfl, rfl, rfl, by decide +kernel, rfl, by decide +kernel, by decide +kernel⟩
abbrev s_worst_bend : Stmt := topS 14
abbrev n_worst_bend : List Str := ["beam", "loads", "best", "place", "told", "size"]
theorem sc_worst_bend : FnScope n_worst_bend ["beam", "loads"] (defScope s_worst_bend) := ⟨rfl, rfl, rfl, by decide +kernel, rfl, by decide +kernel, by decide +kernel⟩
abbrev s_most_at : Stmt := topS 15
abbrev n_most_at : List Str := ["beam", "loads", "place", "one", "other", "weight"]
theorem sc_most_at : FnScope n_most_at ["beam", "loads", "place"] (defScope s_most_at) := ⟨rfl, rfl, rfl, by decide +kernel, rfl, by decide +kernel, by decide +kernel⟩
abbrev s_safe_places : Stmt := topS 16
abbrev n_safe_places : List Str := ["beam", "loads", "weight", "place"]
theorem sc_safe_places : FnScope n_safe_places ["beam", "loads", "weight"] (defScope s_safe_places) := ⟨rfl, rfl, rfl, by decide +kernel, rfl, by decide +kernel, by decide +kernel⟩
abbrev s_law_bend : Stmt := topS 35
abbrev n_law_bend : List Str := ["beam", "loads", "place", "found", "forces", "own", "force", "weight", "k"]
theorem sc_law_bend : FnScope n_law_bend ["beam", "loads", "place"] (defScope s_law_bend) := ⟨rfl, rfl, rfl, by decide +kernel, rfl, by decide +kernel, by decide +kernel⟩
abbrev s_best_props : Stmt := topS 17
abbrev n_best_props : List Str := ["long", "loads", "best", "one", "other", "beam", "size"]
theorem sc_best_props : FnScope n_best_props ["long", "loads"] (defScope s_best_props) := ⟨rfl, rfl, rfl, by decide +kernel, rfl, by decide +kernel, by decide +kernel⟩
abbrev s_law_worst : Stmt := topS 36
abbrev n_law_worst : List Str := ["beam", "loads", "best", "place", "bend", "size"]
theorem sc_law_worst : FnScope n_law_worst ["beam", "loads"] (defScope s_law_worst) := ⟨rfl, rfl, rfl, by decide +kernel, rfl, by decide +kernel, by decide +kernel⟩
abbrev s_law : Stmt := topS 37
abbrev n_law : List Str := ["script", "w", "turn", "long", "one", "beam", "loads", "place", "weight", "due", "best", "a", "b", "size", "places", "whole", "things", "thing", "right", "k", "load", "p", "n"]
theorem sc_law : FnScope n_law ["script"] (defScope s_law) := ⟨rfl, rfl, rfl, by decide +kernel, rfl, by decide +kernel, by decide +kernel⟩
def b_is_number : Ss := (.cons (.ret (.and (.isin (.var 0) .int) (.not (.isin (.var 0) .bool))))
  .nil)
abbrev f_is_number : List (Nat × Str × Nat × Bool) := []
abbrev g_is_number : List (Nat × Str) := []
theorem c_is_number : chkSs ⟨n_is_number, defScope s_is_number, defScope s_is_number, 1000, f_is_number, g_is_number⟩ b_is_number (defBody s_is_number) = true := by decide +kernel
def b_is_tuple_of : Ss := (.cons (.ret (.and (.isin (.var 0) .tuple) (.cmp .eq (.bi .len (.var 0)) (.var 1))))
  .nil)
abbrev f_is_tuple_of : List (Nat × Str × Nat × Bool) := []
abbrev g_is_tuple_of : List (Nat × Str) := []
theorem c_is_tuple_of : chkSs ⟨n_is_tuple_of, defScope s_is_tuple_of, defScope s_is_tuple_of, 1000, f_is_tuple_of, g_is_tuple_of⟩ b_is_tuple_of (defBody s_is_tuple_of) = true := by decide +kernel
def common_B0 : Ss := (.cons (.asgp [0, 1] (.cons (.var 1) (.cons (.bin .mod (.var 0) (.var 1)) .nil)))
  .nil)
def b_common : Ss := (.cons (.whl (.cmp .ne (.var 1) (.int 0)) common_B0)
  (.cons (.ret (.bi .abs (.var 0)))
  .nil))
abbrev f_common : List (Nat × Str × Nat × Bool) := []
abbrev g_common : List (Nat × Str) := []
theorem c_common : chkSs ⟨n_common, defScope s_common, defScope s_common, 1000, f_common, g_common⟩ b_common (defBody s_common) = true := by decide +kernel
def b_is_less : Ss := (.cons (.ret (.cmp .lt (.bin .mul (.ix (.var 0) (.int 0)) (.ix (.var 1) (.int 1))) (.bin .mul (.ix (.var 1) (.int 0)) (.ix (.var 0) (.int 1)))))
  .nil)
abbrev f_is_less : List (Nat × Str × Nat × Bool) := []
abbrev g_is_less : List (Nat × Str) := []
theorem c_is_less : chkSs ⟨n_is_less, defScope s_is_less, defScope s_is_less, 1000, f_is_less, g_is_less⟩ b_is_less (defBody s_is_less) = true := by decide +kernel
def b_joined_loads : Ss := (.cons (.asg 1 (.bi .sset (.comp [2, 3] (.tp (.cons (.nm 2) (.cons (.nm 3) .nil))) (.val (.var 0)) .yes (.var 2))))
  (.cons (.ret (.bi .tuple (.comp [2] (.nm 2) (.val (.var 1)) .yes (.tup (.cons (.var 2) (.cons (.bi .sum (.comp [4, 5] (.tp (.cons (.nm 4) (.cons (.nm 5) .nil))) (.val (.var 0)) (.cmp .eq (.var 4) (.var 2)) (.var 5))) .nil))))))
  .nil))
abbrev f_joined_loads : List (Nat × Str × Nat × Bool) := []
abbrev g_joined_loads : List (Nat × Str) := []
theorem c_joined_loads : chkSs ⟨n_joined_loads, defScope s_joined_loads, defScope s_joined_loads, 1000, f_joined_loads, g_joined_loads⟩ b_joined_loads (defBody s_joined_loads) = true := by decide +kernel
def b_turned_beam : Ss := (.cons (.asgt (.tp (.cons (.nm 2) (.cons (.tp (.cons (.nm 3) (.cons (.nm 4) .nil))) .nil))) (.var 0))
  (.cons (.asg 5 (.bi .tuple (.comp [6, 7] (.tp (.cons (.nm 6) (.cons (.nm 7) .nil))) (.val (.rev (.var 1))) .yes (.tup (.cons (.bin .sub (.var 2) (.var 6)) (.cons (.var 7) .nil))))))
  (.cons (.ret (.tup (.cons (.tup (.cons (.var 2) (.cons (.tup (.cons (.bin .sub (.var 2) (.var 4)) (.cons (.bin .sub (.var 2) (.var 3)) .nil))) .nil))) (.cons (.var 5) .nil))))
  .nil)))
abbrev f_turned_beam : List (Nat × Str × Nat × Bool) := []
abbrev g_turned_beam : List (Nat × Str) := []
theorem c_turned_beam : chkSs ⟨n_turned_beam, defScope s_turned_beam, defScope s_turned_beam, 1000, f_turned_beam, g_turned_beam⟩ b_turned_beam (defBody s_turned_beam) = true := by decide +kernel
def b_law_is_number : Ss := (.cons (.ret (.and (.isin (.var 0) .int) (.not (.isin (.var 0) .bool))))
  .nil)
abbrev f_law_is_number : List (Nat × Str × Nat × Bool) := []
abbrev g_law_is_number : List (Nat × Str) := []
theorem c_law_is_number : chkSs ⟨n_law_is_number, defScope s_law_is_number, defScope s_law_is_number, 1000, f_law_is_number, g_law_is_number⟩ b_law_is_number (defBody s_law_is_number) = true := by decide +kernel
def b_law_is_bit : Ss := (.cons (.ret (.or (.and (.var 1) (.cmp .is_ (.var 0) (.bl true))) (.and (.not (.var 1)) (.cmp .is_ (.var 0) (.bl false)))))
  .nil)
abbrev f_law_is_bit : List (Nat × Str × Nat × Bool) := []
abbrev g_law_is_bit : List (Nat × Str) := []
theorem c_law_is_bit : chkSs ⟨n_law_is_bit, defScope s_law_is_bit, defScope s_law_is_bit, 1000, f_law_is_bit, g_law_is_bit⟩ b_law_is_bit (defBody s_law_is_bit) = true := by decide +kernel
def law_common_B0 : Ss := (.cons (.ite (.cmp .eq (.var 1) (.int 0)) (.cons .brk
  .nil) .nil)
  (.cons (.asgp [0, 1] (.cons (.var 1) (.cons (.bin .mod (.var 0) (.var 1)) .nil)))
  .nil))
def b_law_common : Ss := (.cons (.for_ (.nm 2) (.r1 (.int 400)) law_common_B0)
  (.cons (.ret (.bi .abs (.var 0)))
  .nil))
abbrev f_law_common : List (Nat × Str × Nat × Bool) := []
abbrev g_law_common : List (Nat × Str) := []
theorem c_law_common : chkSs ⟨n_law_common, defScope s_law_common, defScope s_law_common, 1000, f_law_common, g_law_common⟩ b_law_common (defBody s_law_common) = true := by decide +kernel
def b_law_below : Ss := (.cons (.ret (.cmp .lt (.bin .mul (.ix (.var 0) (.int 0)) (.ix (.var 1) (.int 1))) (.bin .mul (.ix (.var 1) (.int 0)) (.ix (.var 0) (.int 1)))))
  .nil)
abbrev f_law_below : List (Nat × Str × Nat × Bool) := []
abbrev g_law_below : List (Nat × Str) := []
theorem c_law_below : chkSs ⟨n_law_below, defScope s_law_below, defScope s_law_below, 1000, f_law_below, g_law_below⟩ b_law_below (defBody s_law_below) = true := by decide +kernel
def b_law_lies : Ss := (.cons (.asg 2 (.bi .sum (.comp [4] (.nm 4) (.val (.var 1)) .yes (.ix (.var 4) (.int 1)))))
  (.cons (.asg 3 (.bi .sum (.comp [5, 6] (.tp (.cons (.nm 5) (.cons (.nm 6) .nil))) (.val (.var 1)) .yes (.bin .mul (.var 5) (.var 6)))))
  (.cons (.ret (.and (.cmp .le (.bin .mul (.ix (.ix (.var 0) (.int 1)) (.int 0)) (.var 2)) (.var 3)) (.cmp .le (.var 3) (.bin .mul (.ix (.ix (.var 0) (.int 1)) (.int 1)) (.var 2)))))
  .nil)))
abbrev f_law_lies : List (Nat × Str × Nat × Bool) := []
abbrev g_law_lies : List (Nat × Str) := []
theorem c_law_lies : chkSs ⟨n_law_lies, defScope s_law_lies, defScope s_law_lies, 1000, f_law_lies, g_law_lies⟩ b_law_lies (defBody s_law_lies) = true := by decide +kernel
def b_is_from : Ss := (.cons (.ret (.and (.call id_is_number (.cons (.var 0) .nil)) (.cmp .ge (.var 0) (.var 1))))
  .nil)
abbrev f_is_from : List (Nat × Str × Nat × Bool) := [(id_is_number, "is_number", 1, false)]
abbrev g_is_from : List (Nat × Str) := []
theorem c_is_from : chkSs ⟨n_is_from, defScope s_is_from, defScope s_is_from, 1000, f_is_from, g_is_from⟩ b_is_from (defBody s_is_from) = true := by decide +kernel
def b_fraction : Ss := (.cons (.asg 2 (.call id_common (.cons (.var 0) (.cons (.var 1) .nil))))
  (.cons (.ite (.cmp .lt (.var 1) (.int 0)) (.cons (.asg 2 (.neg (.var 2)))
  .nil) .nil)
  (.cons (.ret (.tup (.cons (.bin .fdiv (.var 0) (.var 2)) (.cons (.bin .fdiv (.var 1) (.var 2)) .nil))))
  .nil)))
abbrev f_fraction : List (Nat × Str × Nat × Bool) := [(id_common, "common", 2, false)]
abbrev g_fraction : List (Nat × Str) := []
theorem c_fraction : chkSs ⟨n_fraction, defScope s_fraction, defScope s_fraction, 1000, f_fraction, g_fraction⟩ b_fraction (defBody s_fraction) = true := by decide +kernel
def b_law_frac : Ss := (.cons (.asg 2 (.call id_law_common (.cons (.var 0) (.cons (.var 1) .nil))))
  (.cons (.ite (.cmp .lt (.var 1) (.int 0)) (.cons (.asg 2 (.neg (.var 2)))
  .nil) .nil)
  (.cons (.ret (.tup (.cons (.bin .fdiv (.var 0) (.var 2)) (.cons (.bin .fdiv (.var 1) (.var 2)) .nil))))
  .nil)))
abbrev f_law_frac : List (Nat × Str × Nat × Bool) := [(id_law_common, "_law_common", 2, false)]
abbrev g_law_frac : List (Nat × Str) := []
theorem c_law_frac : chkSs ⟨n_law_frac, defScope s_law_frac, defScope s_law_frac, 1000, f_law_frac, g_law_frac⟩ b_law_frac (defBody s_law_frac) = true := by decide +kernel
def b_minus : Ss := (.cons (.ret (.call id_fraction (.cons (.bin .sub (.bin .mul (.ix (.var 0) (.int 0)) (.ix (.var 1) (.int 1))) (.bin .mul (.ix (.var 1) (.int 0)) (.ix (.var 0) (.int 1)))) (.cons (.bin .mul (.ix (.var 0) (.int 1)) (.ix (.var 1) (.int 1))) .nil))))
  .nil)
abbrev f_minus : List (Nat × Str × Nat × Bool) := [(id_fraction, "fraction", 2, false)]
abbrev g_minus : List (Nat × Str) := []
theorem c_minus : chkSs ⟨n_minus, defScope s_minus, defScope s_minus, 1000, f_minus, g_minus⟩ b_minus (defBody s_minus) = true := by decide +kernel
def b_times : Ss := (.cons (.ret (.call id_fraction (.cons (.bin .mul (.ix (.var 0) (.int 0)) (.ix (.var 1) (.int 0))) (.cons (.bin .mul (.ix (.var 0) (.int 1)) (.ix (.var 1) (.int 1))) .nil))))
  .nil)
abbrev f_times : List (Nat × Str × Nat × Bool) := [(id_fraction, "fraction", 2, false)]
abbrev g_times : List (Nat × Str) := []
theorem c_times : chkSs ⟨n_times, defScope s_times, defScope s_times, 1000, f_times, g_times⟩ b_times (defBody s_times) = true := by decide +kernel
def b_is_beam : Ss := (.cons (.ite (.or (.not (.call id_is_tuple_of (.cons (.var 0) (.cons (.int 2) .nil)))) (.or (.not (.call id_is_from (.cons (.ix (.var 0) (.int 0)) (.cons (.int 1) .nil)))) (.not (.call id_is_tuple_of (.cons (.ix (.var 0) (.int 1)) (.cons (.int 2) .nil)))))) (.cons (.ret (.bl false))
  .nil) .nil)
  (.cons (.asgt (.tp (.cons (.nm 1) (.cons (.nm 2) .nil))) (.ix (.var 0) (.int 1)))
  (.cons (.ret (.and (.call id_is_number (.cons (.var 1) .nil)) (.and (.call id_is_number (.cons (.var 2) .nil)) (.chain3 .le .lt .le (.int 0) (.var 1) (.var 2) (.ix (.var 0) (.int 0))))))
  .nil)))
abbrev f_is_beam : List (Nat × Str × Nat × Bool) := [(id_is_number, "is_number", 1, false), (id_is_tuple_of, "is_tuple_of", 2, false), (id_is_from, "is_from", 2, false)]
abbrev g_is_beam : List (Nat × Str) := []
theorem c_is_beam : chkSs ⟨n_is_beam, defScope s_is_beam, defScope s_is_beam, 1000, f_is_beam, g_is_beam⟩ b_is_beam (defBody s_is_beam) = true := by decide +kernel
def b_middle_of_loads : Ss := (.cons (.asg 1 (.bi .sum (.comp [2, 3] (.tp (.cons (.nm 2) (.cons (.nm 3) .nil))) (.val (.var 0)) .yes (.var 3))))
  (.cons (.ret (.ife (.cmp .gt (.var 1) (.int 0)) (.call id_fraction (.cons (.bi .sum (.comp [4, 3] (.tp (.cons (.nm 4) (.cons (.nm 3) .nil))) (.val (.var 0)) .yes (.bin .mul (.var 4) (.var 3)))) (.cons (.var 1) .nil))) .none))
  .nil))
abbrev f_middle_of_loads : List (Nat × Str × Nat × Bool) := [(id_fraction, "fraction", 2, false)]
abbrev g_middle_of_loads : List (Nat × Str) := []
theorem c_middle_of_loads : chkSs ⟨n_middle_of_loads, defScope s_middle_of_loads, defScope s_middle_of_loads, 1000, f_middle_of_loads, g_middle_of_loads⟩ b_middle_of_loads (defBody s_middle_of_loads) = true := by decide +kernel
def b_law_add : Ss := (.cons (.ret (.call id_law_frac (.cons (.bin .add (.bin .mul (.ix (.var 0) (.int 0)) (.ix (.var 1) (.int 1))) (.bin .mul (.ix (.var 1) (.int 0)) (.ix (.var 0) (.int 1)))) (.cons (.bin .mul (.ix (.var 0) (.int 1)) (.ix (.var 1) (.int 1))) .nil))))
  .nil)
abbrev f_law_add : List (Nat × Str × Nat × Bool) := [(id_law_frac, "_law_frac", 2, false)]
abbrev g_law_add : List (Nat × Str) := []
theorem c_law_add : chkSs ⟨n_law_add, defScope s_law_add, defScope s_law_add, 1000, f_law_add, g_law_add⟩ b_law_add (defBody s_law_add) = true := by decide +kernel
def b_law_less : Ss := (.cons (.ret (.call id_law_frac (.cons (.bin .sub (.bin .mul (.ix (.var 0) (.int 0)) (.ix (.var 1) (.int 1))) (.bin .mul (.ix (.var 1) (.int 0)) (.ix (.var 0) (.int 1)))) (.cons (.bin .mul (.ix (.var 0) (.int 1)) (.ix (.var 1) (.int 1))) .nil))))
  .nil)
abbrev f_law_less : List (Nat × Str × Nat × Bool) := [(id_law_frac, "_law_frac", 2, false)]
abbrev g_law_less : List (Nat × Str) := []
theorem c_law_less : chkSs ⟨n_law_less, defScope s_law_less, defScope s_law_less, 1000, f_law_less, g_law_less⟩ b_law_less (defBody s_law_less) = true := by decide +kernel
def b_law_mul : Ss := (.cons (.ret (.call id_law_frac (.cons (.bin .mul (.ix (.var 0) (.int 0)) (.ix (.var 1) (.int 0))) (.cons (.bin .mul (.ix (.var 0) (.int 1)) (.ix (.var 1) (.int 1))) .nil))))
  .nil)
abbrev f_law_mul : List (Nat × Str × Nat × Bool) := [(id_law_frac, "_law_frac", 2, false)]
abbrev g_law_mul : List (Nat × Str) := []
theorem c_law_mul : chkSs ⟨n_law_mul, defScope s_law_mul, defScope s_law_mul, 1000, f_law_mul, g_law_mul⟩ b_law_mul (defBody s_law_mul) = true := by decide +kernel
def b_rests : Ss := (.cons (.asgt (.tp (.cons (.nm 2) (.cons (.nm 3) .nil))) (.ix (.var 0) (.int 1)))
  (.cons (.asg 4 (.bi .sum (.comp [6, 7] (.tp (.cons (.nm 6) (.cons (.nm 7) .nil))) (.val (.var 1)) .yes (.var 7))))
  (.cons (.asg 5 (.call id_fraction (.cons (.bi .sum (.comp [8, 7] (.tp (.cons (.nm 8) (.cons (.nm 7) .nil))) (.val (.var 1)) .yes (.bin .mul (.bin .sub (.var 8) (.var 2)) (.var 7)))) (.cons (.bin .sub (.var 3) (.var 2)) .nil))))
  (.cons (.ret (.tup (.cons (.call id_minus (.cons (.tup (.cons (.var 4) (.cons (.int 1) .nil))) (.cons (.var 5) .nil))) (.cons (.var 5) .nil))))
  .nil))))
abbrev f_rests : List (Nat × Str × Nat × Bool) := [(id_fraction, "fraction", 2, false), (id_minus, "minus", 2, false)]
abbrev g_rests : List (Nat × Str) := []
theorem c_rests : chkSs ⟨n_rests, defScope s_rests, defScope s_rests, 1000, f_rests, g_rests⟩ b_rests (defBody s_rests) = true := by decide +kernel
def law_total_B0 : Ss := (.cons (.asg 1 (.call id_law_add (.cons (.var 1) (.cons (.var 2) .nil))))
  .nil)
def b_law_total : Ss := (.cons (.asg 1 (.tup (.cons (.int 0) (.cons (.int 1) .nil))))
  (.cons (.for_ (.nm 2) (.val (.var 0)) law_total_B0)
  (.cons (.ret (.var 1))
  .nil)))
abbrev f_law_total : List (Nat × Str × Nat × Bool) := [(id_law_add, "_law_add", 2, false)]
abbrev g_law_total : List (Nat × Str) := []
theorem c_law_total : chkSs ⟨n_law_total, defScope s_law_total, defScope s_law_total, 1000, f_law_total, g_law_total⟩ b_law_total (defBody s_law_total) = true := by decide +kernel
def b_lies : Ss := (.cons (.ret (.bi .all (.comp [2] (.nm 2) (.val (.call id_rests (.cons (.var 0) (.cons (.var 1) .nil)))) .yes (.cmp .ge (.ix (.var 2) (.int 0)) (.int 0)))))
  .nil)
abbrev f_lies : List (Nat × Str × Nat × Bool) := [(id_rests, "rests", 2, false)]
abbrev g_lies : List (Nat × Str) := []
theorem c_lies : chkSs ⟨n_lies, defScope s_lies, defScope s_lies, 1000, f_lies, g_lies⟩ b_lies (defBody s_lies) = true := by decide +kernel
def bends_at_B0 : Ss := (.cons (.ite (.cmp .lt (.var 4) (.var 2)) (.cons (.asg 3 (.call id_minus (.cons (.var 3) (.cons (.call id_times (.cons (.var 5) (.cons (.tup (.cons (.bin .sub (.var 2) (.var 4)) (.cons (.int 1) .nil))) .nil))) .nil))))
  .nil) .nil)
  .nil)
def b_bends_at : Ss := (.cons (.asg 3 (.tup (.cons (.bi .sum (.comp [6, 7] (.tp (.cons (.nm 6) (.cons (.nm 7) .nil))) (.val (.var 1)) (.cmp .lt (.var 6) (.var 2)) (.bin .mul (.bin .sub (.var 2) (.var 6)) (.var 7)))) (.cons (.int 1) .nil))))
  (.cons (.for_ (.tp (.cons (.nm 4) (.cons (.nm 5) .nil))) (.zip (.ix (.var 0) (.int 1)) (.call id_rests (.cons (.var 0) (.cons (.var 1) .nil)))) bends_at_B0)
  (.cons (.ret (.var 3))
  .nil)))
abbrev f_bends_at : List (Nat × Str × Nat × Bool) := [(id_minus, "minus", 2, false), (id_times, "times", 2, false), (id_rests, "rests", 2, false)]
abbrev g_bends_at : List (Nat × Str) := []
theorem c_bends_at : chkSs ⟨n_bends_at, defScope s_bends_at, defScope s_bends_at, 1000, f_bends_at, g_bends_at⟩ b_bends_at (defBody s_bends_at) = true := by decide +kernel
def b_law_rests : Ss := (.cons (.asgt (.tp (.cons (.nm 2) (.cons (.nm 3) .nil))) (.ix (.var 0) (.int 1)))
  (.cons (.asg 4 (.call id_law_total (.cons (.comp [5, 6] (.tp (.cons (.nm 5) (.cons (.nm 6) .nil))) (.val (.var 1)) .yes (.call id_law_frac (.cons (.bin .mul (.var 6) (.bin .sub (.var 5) (.var 2))) (.cons (.bin .sub (.var 3) (.var 2)) .nil)))) .nil)))
  (.cons (.ret (.tup (.cons (.call id_law_less (.cons (.tup (.cons (.bi .sum (.comp [7] (.nm 7) (.val (.var 1)) .yes (.ix (.var 7) (.int 1)))) (.cons (.int 1) .nil))) (.cons (.var 4) .nil))) (.cons (.var 4) .nil))))
  .nil)))
abbrev f_law_rests : List (Nat × Str × Nat × Bool) := [(id_law_frac, "_law_frac", 2, false), (id_law_less, "_law_less", 2, false), (id_law_total, "_law_total", 1, false)]
abbrev g_law_rests : List (Nat × Str) := []
theorem c_law_rests : chkSs ⟨n_law_rests, defScope s_law_rests, defScope s_law_rests, 1000, f_law_rests, g_law_rests⟩ b_law_rests (defBody s_law_rests) = true := by decide +kernel
def worst_bend_B0 : Ss := (.cons (.asg 4 (.call id_bends_at (.cons (.var 0) (.cons (.var 1) (.cons (.var 3) .nil)))))
  (.cons (.asg 5 (.tup (.cons (.bi .abs (.ix (.var 4) (.int 0))) (.cons (.ix (.var 4) (.int 1)) .nil))))
  (.cons (.ite (.or (.cmp .is_ (.var 2) .none) (.call id_is_less (.cons (.ix (.var 2) (.int 0)) (.cons (.var 5) .nil)))) (.cons (.asg 2 (.tup (.cons (.var 5) (.cons (.var 3) .nil))))
  .nil) .nil)
  .nil)))
def b_worst_bend : Ss := (.cons (.asg 2 .none)
  (.cons (.for_ (.nm 3) (.r1 (.bin .add (.ix (.var 0) (.int 0)) (.int 1))) worst_bend_B0)
  (.cons (.ret (.var 2))
  .nil)))
abbrev f_worst_bend : List (Nat × Str × Nat × Bool) := [(id_is_less, "is_less", 2, false), (id_bends_at, "bends_at", 3, false)]
abbrev g_worst_bend : List (Nat × Str) := []
theorem c_worst_bend : chkSs ⟨n_worst_bend, defScope s_worst_bend, defScope s_worst_bend, 1000, f_worst_bend, g_worst_bend⟩ b_worst_bend (defBody s_worst_bend) = true := by decide +kernel
def most_at_B0 : Ss := (.cons (.aug 5 .add (.int 1))
  .nil)
def b_most_at : Ss := (.cons (.asgt (.tp (.cons (.nm 3) (.cons (.nm 4) .nil))) (.ix (.var 0) (.int 1)))
  (.cons (.ite (.or (.chain .le .le (.var 3) (.var 2) (.var 4)) (.not (.call id_lies (.cons (.var 0) (.cons (.var 1) .nil))))) (.cons (.ret .none)
  .nil) .nil)
  (.cons (.asg 5 (.int 0))
  (.cons (.whl (.call id_lies (.cons (.var 0) (.cons (.bin .add (.var 1) (.tup (.cons (.tup (.cons (.var 2) (.cons (.bin .add (.var 5) (.int 1)) .nil))) .nil))) .nil))) most_at_B0)
  (.cons (.ret (.var 5))
  .nil)))))
abbrev f_most_at : List (Nat × Str × Nat × Bool) := [(id_lies, "lies", 2, false)]
abbrev g_most_at : List (Nat × Str) := []
theorem c_most_at : chkSs ⟨n_most_at, defScope s_most_at, defScope s_most_at, 1000, f_most_at, g_most_at⟩ b_most_at (defBody s_most_at) = true := by decide +kernel
def b_safe_places : Ss := (.cons (.ret (.bi .tuple (.comp [3] (.nm 3) (.r1 (.bin .add (.ix (.var 0) (.int 0)) (.int 1))) (.call id_lies (.cons (.var 0) (.cons (.bin .add (.var 1) (.tup (.cons (.tup (.cons (.var 3) (.cons (.var 2) .nil))) .nil))) .nil))) (.var 3))))
  .nil)
abbrev f_safe_places : List (Nat × Str × Nat × Bool) := [(id_lies, "lies", 2, false)]
abbrev g_safe_places : List (Nat × Str) := []
theorem c_safe_places : chkSs ⟨n_safe_places, defScope s_safe_places, defScope s_safe_places, 1000, f_safe_places, g_safe_places⟩ b_safe_places (defBody s_safe_places) = true := by decide +kernel
def law_bend_B0 : Ss := (.cons (.ite (.cmp .lt (.var 5) (.var 2)) (.cons (.asg 3 (.call id_law_add (.cons (.var 3) (.cons (.call id_law_mul (.cons (.var 6) (.cons (.tup (.cons (.bin .sub (.var 2) (.var 5)) (.cons (.int 1) .nil))) .nil))) .nil))))
  .nil) .nil)
  .nil)
def b_law_bend : Ss := (.cons (.asg 3 (.tup (.cons (.int 0) (.cons (.int 1) .nil))))
  (.cons (.asg 4 (.bin .add (.comp [5, 7] (.tp (.cons (.nm 5) (.cons (.nm 7) .nil))) (.val (.var 1)) .yes (.tup (.cons (.var 5) (.cons (.tup (.cons (.var 7) (.cons (.int 1) .nil))) .nil)))) (.comp [8] (.nm 8) (.r1 (.int 2)) .yes (.tup (.cons (.ix (.ix (.var 0) (.int 1)) (.var 8)) (.cons (.call id_law_less (.cons (.tup (.cons (.int 0) (.cons (.int 1) .nil))) (.cons (.ix (.call id_law_rests (.cons (.var 0) (.cons (.var 1) .nil))) (.var 8)) .nil))) .nil))))))
  (.cons (.for_ (.tp (.cons (.nm 5) (.cons (.nm 6) .nil))) (.val (.var 4)) law_bend_B0)
  (.cons (.ret (.var 3))
  .nil))))
abbrev f_law_bend : List (Nat × Str × Nat × Bool) := [(id_law_add, "_law_add", 2, false), (id_law_less, "_law_less", 2, false), (id_law_mul, "_law_mul", 2, false), (id_law_rests, "_law_rests", 2, false)]
abbrev g_law_bend : List (Nat × Str) := []
theorem c_law_bend : chkSs ⟨n_law_bend, defScope s_law_bend, defScope s_law_bend, 1000, f_law_bend, g_law_bend⟩ b_law_bend (defBody s_law_bend) = true := by decide +kernel
def best_props_B1 : Ss := (.cons (.asg 5 (.tup (.cons (.var 0) (.cons (.tup (.cons (.var 3) (.cons (.var 4) .nil))) .nil))))
  (.cons (.ite (.call id_lies (.cons (.var 5) (.cons (.var 1) .nil))) (.cons (.asg 6 (.ix (.call id_worst_bend (.cons (.var 5) (.cons (.var 1) .nil))) (.int 0)))
  (.cons (.ite (.or (.cmp .is_ (.var 2) .none) (.call id_is_less (.cons (.var 6) (.cons (.ix (.var 2) (.int 0)) .nil)))) (.cons (.asg 2 (.tup (.cons (.var 6) (.cons (.tup (.cons (.var 3) (.cons (.var 4) .nil))) .nil))))
  .nil) .nil)
  .nil)) .nil)
  .nil))
def best_props_B0 : Ss := (.cons (.for_ (.nm 4) (.r2 (.bin .add (.var 3) (.int 1)) (.bin .add (.var 0) (.int 1))) best_props_B1)
  .nil)
def b_best_props : Ss := (.cons (.asg 2 .none)
  (.cons (.for_ (.nm 3) (.r1 (.bin .add (.var 0) (.int 1))) best_props_B0)
  (.cons (.ret (.var 2))
  .nil)))
abbrev f_best_props : List (Nat × Str × Nat × Bool) := [(id_is_less, "is_less", 2, false), (id_lies, "lies", 2, false), (id_worst_bend, "worst_bend", 2, false)]
abbrev g_best_props : List (Nat × Str) := []
theorem c_best_props : chkSs ⟨n_best_props, defScope s_best_props, defScope s_best_props, 1000, f_best_props, g_best_props⟩ b_best_props (defBody s_best_props) = true := by decide +kernel
def law_worst_B0 : Ss := (.cons (.asg 4 (.call id_law_bend (.cons (.var 0) (.cons (.var 1) (.cons (.var 3) .nil)))))
  (.cons (.asg 5 (.tup (.cons (.bi .abs (.ix (.var 4) (.int 0))) (.cons (.ix (.var 4) (.int 1)) .nil))))
  (.cons (.asg 2 (.ife (.or (.cmp .is_ (.var 2) .none) (.call id_law_below (.cons (.ix (.var 2) (.int 0)) (.cons (.var 5) .nil)))) (.tup (.cons (.var 5) (.cons (.var 3) .nil))) (.var 2)))
  .nil)))
def b_law_worst : Ss := (.cons (.asg 2 .none)
  (.cons (.for_ (.nm 3) (.r1 (.bin .add (.ix (.var 0) (.int 0)) (.int 1))) law_worst_B0)
  (.cons (.ret (.var 2))
  .nil)))
abbrev f_law_worst : List (Nat × Str × Nat × Bool) := [(id_law_below, "_law_below", 2, false), (id_law_bend, "_law_bend", 3, false)]
abbrev g_law_worst : List (Nat × Str) := []
theorem c_law_worst : chkSs ⟨n_law_worst, defScope s_law_worst, defScope s_law_worst, 1000, f_law_worst, g_law_worst⟩ b_law_worst (defBody s_law_worst) = true := by decide +kernel
def b_law_s1 : S := (.ret (.bl true))
def law_B1_s2 : S := (.ite (.not (.call id_law_is_bit (.cons (.call id_is_beam (.cons (.var 17) .nil)) (.cons (.var 18) .nil)))) (.cons (.ret (.bl false))
  .nil) .nil)
def law_B1_s1 : S := (.asg 18 (.and (.var 18) (.and (.cmp .eq (.comp [22] (.nm 22) (.val (.ix (.var 17) (.int 1))) (.not (.call id_law_is_number (.cons (.var 22) .nil))) (.var 22)) (.lst .nil)) (.and (.cmp .le (.int 0) (.ix (.ix (.var 17) (.int 1)) (.int 0))) (.and (.cmp .lt (.ix (.ix (.var 17) (.int 1)) (.int 0)) (.ix (.ix (.var 17) (.int 1)) (.int 1))) (.cmp .le (.ix (.ix (.var 17) (.int 1)) (.int 1)) (.ix (.var 17) (.int 0))))))))
def law_B1_s0 : S := (.asg 18 (.and (.isin (.var 17) .tuple) (.and (.cmp .eq (.bi .len (.var 17)) (.int 2)) (.and (.call id_law_is_number (.cons (.ix (.var 17) (.int 0)) .nil)) (.and (.cmp .gt (.ix (.var 17) (.int 0)) (.int 0)) (.and (.isin (.ix (.var 17) (.int 1)) .tuple) (.cmp .eq (.bi .len (.ix (.var 17) (.int 1))) (.int 2))))))))
def law_B1 : Ss := (.cons law_B1_s0 (.cons law_B1_s1 (.cons law_B1_s2 .nil)))
def law_B0_s19 : S := (.for_ (.nm 17) (.val (.bin .add (.var 16) (.lst (.cons (.tup (.cons (.var 3) (.cons (.tup (.cons (.neg (.int 1)) (.cons (.int 1) .nil))) .nil))) (.cons (.tup (.cons (.var 3) (.cons (.tup (.cons (.int 0) (.cons (.int 0) .nil))) .nil))) (.cons (.tup (.cons (.var 3) (.cons (.tup (.cons (.int 0) .nil)) .nil))) (.cons (.tup (.cons (.var 3) (.cons (.tup (.cons (.bl false) (.cons (.int 1) .nil))) .nil))) (.cons (.tup (.cons (.var 3) (.cons .none .nil))) (.cons (.tup (.cons (.var 3) (.cons (.tup (.cons (.int 0) (.cons (.var 3) .nil))) .nil))) .nil))))))))) law_B1)
def law_B0_s18 : S := (.asg 16 (.lst (.cons (.var 5) (.cons (.bi .list (.var 5)) (.cons .none (.cons (.tup .nil) (.cons (.tup (.cons (.var 3) .nil)) (.cons (.tup (.cons (.var 3) (.cons (.ix (.var 5) (.int 1)) (.cons (.int 0) .nil)))) (.cons (.tup (.cons (.int 0) (.cons (.tup (.cons (.int 0) (.cons (.int 0) .nil))) .nil))) (.cons (.tup (.cons (.bl true) (.cons (.ix (.var 5) (.int 1)) .nil))) (.cons (.tup (.cons (.var 3) (.cons (.bi .list (.ix (.var 5) (.int 1))) .nil))) (.cons (.tup (.cons (.var 3) (.cons (.rev (.ix (.var 5) (.int 1))) .nil))) (.cons (.tup (.cons (.var 3) (.cons (.tup (.cons (.int 0) (.cons (.bin .add (.var 3) (.int 1)) .nil))) .nil))) .nil)))))))))))))
def law_B0_s17 : S := (.ite (.cmp .ne (.call id_turned_beam (.cons (.var 5) (.cons (.var 6) .nil))) (.tup (.cons (.tup (.cons (.var 3) (.cons (.tup (.cons (.bin .sub (.var 3) (.ix (.ix (.var 5) (.int 1)) (.int 1))) (.cons (.bin .sub (.var 3) (.ix (.ix (.var 5) (.int 1)) (.int 0))) .nil))) .nil))) (.cons (.bi .tuple (.comp [21, 22] (.tp (.cons (.nm 21) (.cons (.nm 22) .nil))) (.val (.rev (.var 6))) .yes (.tup (.cons (.bin .sub (.var 3) (.var 21)) (.cons (.var 22) .nil))))) .nil)))) (.cons (.ret (.bl false))
  .nil) .nil)
def law_B0_s16 : S := (.ite (.cmp .ne (.call id_middle_of_loads (.cons (.var 6) .nil)) (.ife (.cmp .gt (.var 15) (.int 0)) (.call id_law_frac (.cons (.bi .sum (.comp [21, 22] (.tp (.cons (.nm 21) (.cons (.nm 22) .nil))) (.val (.var 6)) .yes (.bin .mul (.var 21) (.var 22)))) (.cons (.var 15) .nil))) .none)) (.cons (.ret (.bl false))
  .nil) .nil)
def law_B0_s15 : S := (.ite (.cmp .ne (.call id_joined_loads (.cons (.var 6) .nil)) (.bi .tuple (.comp [21] (.nm 21) (.val (.var 14)) .yes (.tup (.cons (.var 21) (.cons (.bi .sum (.comp [20] (.nm 20) (.val (.var 6)) (.cmp .eq (.ix (.var 20) (.int 0)) (.var 21)) (.ix (.var 20) (.int 1)))) .nil)))))) (.cons (.ret (.bl false))
  .nil) .nil)
def law_B0_s14 : S := (.asg 15 (.bi .sum (.comp [20] (.nm 20) (.val (.var 6)) .yes (.ix (.var 20) (.int 1)))))
def law_B0_s13 : S := (.asg 14 (.bi .sset (.comp [20] (.nm 20) (.val (.var 6)) .yes (.ix (.var 20) (.int 0)))))
def law_B0_s12 : S := (.ite (.cmp .ne (.call id_best_props (.cons (.var 3) (.cons (.var 6) .nil))) (.var 10)) (.cons (.ret (.bl false))
  .nil) .nil)
def law_B3_s0 : S := (.ite (.call id_law_lies (.cons (.tup (.cons (.var 3) (.cons (.tup (.cons (.var 11) (.cons (.var 12) .nil))) .nil))) (.cons (.var 6) .nil))) (.cons (.asg 13 (.ix (.call id_law_worst (.cons (.tup (.cons (.var 3) (.cons (.tup (.cons (.var 11) (.cons (.var 12) .nil))) .nil))) (.cons (.var 6) .nil))) (.int 0)))
  (.cons (.asg 10 (.ife (.or (.cmp .is_ (.var 10) .none) (.call id_law_below (.cons (.var 13) (.cons (.ix (.var 10) (.int 0)) .nil)))) (.tup (.cons (.var 13) (.cons (.tup (.cons (.var 11) (.cons (.var 12) .nil))) .nil))) (.var 10)))
  .nil)) .nil)
def law_B3 : Ss := (.cons law_B3_s0 .nil)
def law_B2_s0 : S := (.for_ (.nm 12) (.r2 (.bin .add (.var 11) (.int 1)) (.bin .add (.var 3) (.int 1))) law_B3)
def law_B2 : Ss := (.cons law_B2_s0 .nil)
def law_B0_s11 : S := (.for_ (.nm 11) (.r1 (.bin .add (.var 3) (.int 1))) law_B2)
def law_B0_s10 : S := (.asg 10 .none)
def law_B4_s2 : S := (.ite (.cmp .ne (.call id_most_at (.cons (.var 5) (.cons (.var 6) (.cons (.var 7) .nil)))) (.var 9)) (.cons (.ret (.bl false))
  .nil) .nil)
def law_B4_s1 : S := (.ite (.and (.call id_law_lies (.cons (.var 5) (.cons (.var 6) .nil))) (.or (.cmp .lt (.var 7) (.ix (.ix (.var 5) (.int 1)) (.int 0))) (.cmp .gt (.var 7) (.ix (.ix (.var 5) (.int 1)) (.int 1))))) (.cons (.asg 9 (.bi .max (.comp [22] (.nm 22) (.r1 (.int 400)) (.call id_law_lies (.cons (.var 5) (.cons (.bin .add (.var 6) (.tup (.cons (.tup (.cons (.var 7) (.cons (.var 22) .nil))) .nil))) .nil))) (.var 22))))
  .nil) .nil)
def law_B4_s0 : S := (.asg 9 .none)
def law_B4 : Ss := (.cons law_B4_s0 (.cons law_B4_s1 (.cons law_B4_s2 .nil)))
def law_B0_s9 : S := (.for_ (.nm 7) (.r1 (.bin .add (.var 3) (.int 1))) law_B4)
def law_B0_s8 : S := (.ite (.cmp .ne (.call id_safe_places (.cons (.var 5) (.cons (.var 6) (.cons (.var 8) .nil)))) (.bi .tuple (.comp [21] (.nm 21) (.r1 (.bin .add (.var 3) (.int 1))) (.call id_law_lies (.cons (.var 5) (.cons (.bin .add (.var 6) (.tup (.cons (.tup (.cons (.var 21) (.cons (.var 8) .nil))) .nil))) .nil))) (.var 21)))) (.cons (.ret (.bl false))
  .nil) .nil)
def law_B0_s7 : S := (.asg 8 (.callw id_law_next (.cons (.int 9) .nil)))
def law_B0_s6 : S := (.ite (.cmp .ne (.call id_worst_bend (.cons (.var 5) (.cons (.var 6) .nil))) (.call id_law_worst (.cons (.var 5) (.cons (.var 6) .nil)))) (.cons (.ret (.bl false))
  .nil) .nil)
def law_B5_s0 : S := (.ite (.cmp .ne (.call id_bends_at (.cons (.var 5) (.cons (.var 6) (.cons (.var 7) .nil)))) (.call id_law_bend (.cons (.var 5) (.cons (.var 6) (.cons (.var 7) .nil))))) (.cons (.ret (.bl false))
  .nil) .nil)
def law_B5 : Ss := (.cons law_B5_s0 .nil)
def law_B0_s5 : S := (.for_ (.nm 7) (.r1 (.bin .add (.var 3) (.int 1))) law_B5)
def law_B0_s4 : S := (.ite (.or (.cmp .ne (.call id_rests (.cons (.var 5) (.cons (.var 6) .nil))) (.call id_law_rests (.cons (.var 5) (.cons (.var 6) .nil)))) (.not (.call id_law_is_bit (.cons (.call id_lies (.cons (.var 5) (.cons (.var 6) .nil))) (.cons (.call id_law_lies (.cons (.var 5) (.cons (.var 6) .nil))) .nil))))) (.cons (.ret (.bl false))
  .nil) .nil)
def law_B0_s3 : S := (.asg 6 (.bi .tuple (.comp [19] (.nm 19) (.r1 (.callw id_law_next (.cons (.int 5) .nil))) .yes (.tup (.cons (.callw id_law_next (.cons (.bin .add (.var 3) (.int 1)) .nil)) (.cons (.callw id_law_next (.cons (.int 7) .nil)) .nil))))))
def law_B0_s2 : S := (.asg 5 (.tup (.cons (.var 3) (.cons (.tup (.cons (.var 4) (.cons (.bin .add (.bin .add (.var 4) (.int 1)) (.callw id_law_next (.cons (.bin .sub (.var 3) (.var 4)) .nil))) .nil))) .nil))))
def law_B0_s1 : S := (.asg 4 (.callw id_law_next (.cons (.var 3) .nil)))
def law_B0_s0 : S := (.asg 3 (.bin .add (.int 1) (.callw id_law_next (.cons (.int 7) .nil))))
def law_B0 : Ss := (.cons law_B0_s0 (.cons law_B0_s1 (.cons law_B0_s2 (.cons law_B0_s3 (.cons law_B0_s4 (.cons law_B0_s5 (.cons law_B0_s6 (.cons law_B0_s7 (.cons law_B0_s8 (.cons law_B0_s9 (.cons law_B0_s10 (.cons law_B0_s11 (.cons law_B0_s12 (.cons law_B0_s13 (.cons law_B0_s14 (.cons law_B0_s15 (.cons law_B0_s16 (.cons law_B0_s17 (.cons law_B0_s18 (.cons law_B0_s19 .nil))))))))))))))))))))
def b_law_s0 : S := (.for_ (.nm 2) (.r1 (.int 3)) law_B0)
def b_law : Ss := (.cons b_law_s0 (.cons b_law_s1 .nil))
abbrev f_law : List (Nat × Str × Nat × Bool) := [(id_joined_loads, "joined_loads", 1, false), (id_turned_beam, "turned_beam", 2, false), (id_law_next, "_law_next", 2, true), (id_law_is_number, "_law_is_number", 1, false), (id_law_is_bit, "_law_is_bit", 2, false), (id_law_below, "_law_below", 2, false), (id_law_lies, "_law_lies", 2, false), (id_law_frac, "_law_frac", 2, false), (id_is_beam, "is_beam", 1, false), (id_middle_of_loads, "middle_of_loads", 1, false), (id_rests, "rests", 2, false), (id_lies, "lies", 2, false), (id_bends_at, "bends_at", 3, false), (id_law_rests, "_law_rests", 2, false), (id_worst_bend, "worst_bend", 2, false), (id_most_at, "most_at", 3, false), (id_safe_places, "safe_places", 3, false), (id_law_bend, "_law_bend", 3, false), (id_best_props, "best_props", 2, false), (id_law_worst, "_law_worst", 2, false)]
abbrev g_law : List (Nat × Str) := []
theorem c_law : chkSs ⟨n_law, defScope s_law, defScope s_law, 1, f_law, g_law⟩ b_law (defBody s_law).tail = true := by decide +kernel
end PW

set_option maxHeartbeats 4000000
/-! The beams: typed. -/
namespace PW
open PySem PyProof.Rows L2 PV
abbrev Fr2 := Int × Int
abbrev Bm := Int × Int × Int
abbrev Ld := List (Int × Int)
def cBm : Cod Bm := c2 cInt cF
def cLd : Cod Ld := cT cF
theorem ok_Bm : CodOk cBm 2 := ok_2 ok_int ok_F (by decide) (by decide)
theorem ok_Ld : CodOk cLd 2 := ok_T ok_F
abbrev G0 : Nat → List D → Option D := fun _ _ => none
def C0 : Nat → Option D := fun _ => none
def wS (l : Ld) : Int := (l.map fun z => z.2).sum
def tS (l : Ld) : Int := (l.map fun z => z.1 * z.2).sum
def s2S (b : Bm) (l : Ld) : Int := (l.map fun z => (z.1 - b.2.1) * z.2).sum
def dB (b : Bm) : Int := b.2.2 - b.2.1
def r1S (b : Bm) (l : Ld) : Int := wS l * dB b - s2S b l
def restsD (b : Bm) (l : Ld) : D := .tuple [cF.enc (fr (r1S b l) (dB b)), cF.enc (fr (s2S b l) (dB b))]
def liesB (b : Bm) (l : Ld) : Bool := decide (b.2.1 * wS l ≤ tS l) && decide (tS l ≤ b.2.2 * wS l)
def nearS (l : Ld) (p : Int) : Int := ((l.filter fun z => decide (z.1 < p)).map fun z => (p - z.1) * z.2).sum
def bendX (b : Bm) (l : Ld) (p : Int) : Int := nearS l p * dB b - (if b.2.1 < p then r1S b l * (p - b.2.1) else 0) - (if b.2.2 < p then s2S b l * (p - b.2.2) else 0)
def bendP (b : Bm) (l : Ld) (p : Int) : Fr2 := fr (bendX b l p) (dB b)
def sizeP (f : Fr2) : Fr2 := ((f.1.natAbs : Int), f.2)
def wStep (b : Bm) (l : Ld) (best : Option (Fr2 × Nat)) (p : Nat) : Option (Fr2 × Nat) := match best with
  | none => some (sizeP (bendP b l p), p)
  | some q => if flt q.1 (sizeP (bendP b l p)) = true then some (sizeP (bendP b l p), p) else some q
def worP (b : Bm) (l : Ld) : Option (Fr2 × Nat) := (List.range (b.1.toNat + 1)).foldl (wStep b l) none
def wvD : Option (Fr2 × Nat) → D
  | none => .none
  | some z => .tuple [cF.enc z.1, .int z.2]
def mostN (b : Bm) (l : Ld) (p : Int) : Option Nat := (List.range 400).find? fun n => !liesB b (l ++ [(p, (n : Int) + 1)])
def earlyB (b : Bm) (l : Ld) (p : Int) : Bool := (decide (b.2.1 ≤ p) && decide (p ≤ b.2.2)) || !liesB b l
def mostD (b : Bm) (l : Ld) (p : Int) : D := if earlyB b l p = true then .none else match mostN b l p with
  | some n => .int n
  | none => .none
def safeP (b : Bm) (l : Ld) (w : Int) : List Nat := (List.range (b.1.toNat + 1)).filter fun (p : Nat) => liesB b (l ++ [((p : Int), w)])
def bpS (long : Int) (l : Ld) (best : Option (Fr2 × Int × Int)) (a c : Int) : Option (Fr2 × Int × Int) := if liesB (long, a, c) l = true then (match worP (long, a, c) l with
  | none => best
  | some z => match best with
    | none => some (z.1, a, c)
    | some q => if flt z.1 q.1 = true then some (z.1, a, c) else some q) else best
def bpR (long : Int) (l : Ld) (best : Option (Fr2 × Int × Int)) (a : Nat) : Option (Fr2 × Int × Int) := (List.range (long.toNat - a)).foldl (fun s (k : Nat) => bpS long l s a ((a : Int) + 1 + k)) best
def bpP (long : Int) (l : Ld) : Option (Fr2 × Int × Int) := (List.range (long.toNat + 1)).foldl (bpR long l) none
def bpD : Option (Fr2 × Int × Int) → D
  | none => .none
  | some z => .tuple [cF.enc z.1, cF.enc z.2]
def joinP (l : Ld) : Ld := (uniqS (l.map fun z => z.1)).map fun p => (p, ((l.filter fun z => decide (z.1 = p)).map fun z => z.2).sum)
def midD (l : Ld) : D := if 0 < wS l then cF.enc (fr (tS l) (wS l)) else .none
def turnB (b : Bm) : Bm := (b.1, b.1 - b.2.2, b.1 - b.2.1)
def turnL (b : Bm) (l : Ld) : Ld := l.reverse.map fun z => (b.1 - z.1, z.2)
/-! things -/
def cD : Cod D where
  enc := id
  dec := some
  he := fun _ => rfl
  hd := fun _ _ h => (Option.some.inj h).symm
def numB (d : D) : Bool := match d with
  | .int _ => true
  | _ => false
def asI (d : D) : Int := match d with
  | .int i => i
  | _ => 0
def tupB (d : D) (n : Int) : Bool := match d with
  | .tuple xs => decide ((xs.length : Int) = n)
  | _ => false
def isbB (d : D) : Bool := match d with
  | .tuple [x, .tuple [a, c]] => (numB x && decide (1 ≤ asI x)) && (numB a && (numB c && (decide (0 ≤ asI a) && (decide (asI a < asI c) && decide (asI c ≤ asI x)))))
  | _ => false
/-! conditions -/
def okB (b : Bm) : Bool := decide (1 ≤ b.1 ∧ b.1 ≤ 9 ∧ 0 ≤ b.2.1 ∧ b.2.1 < b.2.2 ∧ b.2.2 ≤ b.1)
def okZ (z : Int × Int) : Bool := decide (0 ≤ z.1 ∧ z.1 ≤ 9 ∧ 0 ≤ z.2 ∧ z.2 ≤ 1000)
def okL (l : Ld) : Bool := decide (l.length ≤ 6) && l.all okZ
def okBL (b : Bm) (l : Ld) : Bool := okB b && okL l
def S_num := spec (A1 cD) (fun _ => true) fun d => .bool (numB d)
def S_tup := spec (A2 cD cInt) (fun _ => true) fun z => .bool (tupB z.1 z.2)
def S_from := spec (A2 cD cInt) (fun _ => true) fun z => .bool (numB z.1 && decide (z.2 ≤ asI z.1))
def S_isb := spec (A1 cD) (fun _ => true) fun d => .bool (isbB d)
def S_is_bit := spec (A2 cBool cBool) (fun _ => true) fun p => .bool (p.1 == p.2)
def S_join := spec (A1 cLd) okL fun l => cLd.enc (joinP l)
def S_turn := spec (A2 cBm cLd) (fun z => okBL z.1 z.2) fun z => .tuple [cBm.enc (turnB z.1), cLd.enc (turnL z.1 z.2)]
def S_lies := spec (A2 cBm cLd) (fun z => okBL z.1 z.2) fun z => .bool (liesB z.1 z.2)
def S_rests := spec (A2 cBm cLd) (fun z => okBL z.1 z.2) fun z => restsD z.1 z.2
def S_mid := spec (A1 cLd) okL midD
def S_bend := spec (A3 cBm cLd cInt) (fun z => okBL z.1 z.2.1 && decide (0 ≤ z.2.2 ∧ z.2.2 ≤ 10)) fun z => cF.enc (bendP z.1 z.2.1 z.2.2)
def S_wor := spec (A2 cBm cLd) (fun z => okBL z.1 z.2) fun z => wvD (worP z.1 z.2)
def S_most := spec (A3 cBm cLd cInt) (fun z => (okB z.1 && (okL z.2.1 && decide (z.2.1.length ≤ 5))) && (decide (0 ≤ z.2.2 ∧ z.2.2 ≤ 9) && (earlyB z.1 z.2.1 z.2.2 || (mostN z.1 z.2.1 z.2.2).isSome))) fun z => mostD z.1 z.2.1 z.2.2
def S_safe := spec (A3 cBm cLd cInt) (fun z => (okB z.1 && (okL z.2.1 && decide (z.2.1.length ≤ 5))) && decide (0 ≤ z.2.2 ∧ z.2.2 ≤ 1000)) fun z => (cT cNat).enc (safeP z.1 z.2.1 z.2.2)
def S_bp := spec (A2 cInt cLd) (fun z => decide (1 ≤ z.1 ∧ z.1 ≤ 9) && okL z.2) fun z => bpD (bpP z.1 z.2)
def SS : Nat → List D → Option D
  | 0 => S_num
  | 1 => S_tup
  | 2 => S_comG
  | 3 => S_lt
  | 4 => S_join
  | 5 => S_turn
  | 8 => S_num
  | 9 => S_is_bit
  | 10 => S_comG
  | 11 => S_lt
  | 12 => S_lies
  | 13 => S_from
  | 14 => S_frG
  | 15 => S_frG
  | 16 => S_sub
  | 17 => S_mul
  | 18 => S_isb
  | 19 => S_mid
  | 20 => S_add
  | 21 => S_sub
  | 22 => S_mul
  | 23 => S_rests
  | 24 => S_tot
  | 25 => S_lies
  | 26 => S_bend
  | 27 => S_rests
  | 28 => S_wor
  | 29 => S_most
  | 30 => S_safe
  | 31 => S_bend
  | 32 => S_bp
  | 33 => S_wor
  | _ => fun _ => none
theorem e_Bm (b : Bm) : cBm.enc b = .tuple [.int b.1, .tuple [.int b.2.1, .int b.2.2]] := rfl
theorem e_Ld (l : Ld) : cLd.enc l = .tuple (l.map cF.enc) := rfl
theorem okB_it {b : Bm} (h : okB b = true) : 1 ≤ b.1 ∧ b.1 ≤ 9 ∧ 0 ≤ b.2.1 ∧ b.2.1 < b.2.2 ∧ b.2.2 ≤ b.1 := by
  unfold okB at h
  exact of_decide_eq_true h
theorem okL_it {l : Ld} (h : okL l = true) : l.length ≤ 6 ∧ ∀ z ∈ l, 0 ≤ z.1 ∧ z.1 ≤ 9 ∧ 0 ≤ z.2 ∧ z.2 ≤ 1000 := by
  simp only [okL, okZ, Bool.and_eq_true, decide_eq_true_eq, List.all_eq_true] at h
  exact h
theorem okL_of {l : Ld} (h1 : l.length ≤ 6) (h2 : ∀ z ∈ l, 0 ≤ z.1 ∧ z.1 ≤ 9 ∧ 0 ≤ z.2 ∧ z.2 ≤ 1000) : okL l = true := by
  simp only [okL, okZ, Bool.and_eq_true, decide_eq_true_eq, List.all_eq_true]
  exact ⟨h1, h2⟩
theorem okBL_it {b : Bm} {l : Ld} (h : okBL b l = true) : okB b = true ∧ okL l = true := by
  unfold okBL at h
  simpa using h
theorem okBL_of {b : Bm} {l : Ld} (h1 : okB b = true) (h2 : okL l = true) : okBL b l = true := by
  unfold okBL
  rw [h1, h2]
  rfl
theorem dB_pos {b : Bm} (h : okB b = true) : 0 < dB b ∧ dB b ≤ 9 := by
  have := okB_it h
  unfold dB
  omega
end PW

set_option maxHeartbeats 4000000
/-! The beams: fractions. -/
namespace PW
open PySem PyProof.Rows L2 PV
theorem r_common : ∀ ds d, SS id_common ds = some d → run optM C0 SS G0 n_common.length b_common ds = some d := by
  intro ds d h
  obtain ⟨⟨a, b⟩, h1, hp, rfl⟩ := spec_some (show S_comG ds = some d from h)
  obtain rfl := A2_some h1
  simp only [decide_eq_true_eq] at hp
  refine run_of ?_
  have key := whO_go (step := wBody C0 SS G0 (.cmp .ne (.var 1) (.int 0)) common_B0 [.sh (.int a), .sh (.int b)]) (fun s : Int × Int => [.sh (.int s.1), .sh (.int s.2)]) (fun s => s.2.natAbs) (fun s => (s.2, s.1.fmod s.2)) (fun s => !decide (s.2 = 0)) (fun s => 0 ≤ s.2 ∧ Int.gcd s.1 s.2 = Int.gcd a b) (fun s hI => ?_) _ (a, b) (Nat.le_refl _) ⟨by omega, rfl⟩
  · obtain ⟨s, k1, k2, k3⟩ := key
    have h0 : s.2 = 0 := by simpa using k3
    have hg := k2.2
    rw [h0, Int.gcd_zero_right] at hg
    unfold b_common
    simp [esc, escs, k1, ← hg]
    split <;> omega
  · by_cases h0 : s.2 = 0
    · exact ⟨fun z => by simp [h0] at z, fun _ => wBody_end (by simp [h0])⟩
    · have hpos : 0 < s.2 := by omega
      have f1 := Int.fmod_nonneg_of_pos s.1 hpos
      have f2 := Int.fmod_lt_of_pos s.1 hpos
      refine ⟨fun _ => ⟨?_, ⟨f1, (gcd_fmod s.1 s.2).trans hI.2⟩, ?_⟩, fun z => by simp [h0] at z⟩
      · rw [wBody_go (ρ' := [.sh (.int s.2), .sh (.int (s.1.fmod s.2))]) (by simp [h0]) (by simp [common_B0, esc, escs, setAll, h0])]
        simp [esc]
      · simp only
        omega
theorem SS_common {a b : Int} (h : 0 < b ∧ b < 2 ^ 190) : SS id_common [.int a, .int b] = some (.int (Int.gcd a b)) := by
  show S_comG _ = _
  unfold S_comG
  exact spec_of (A2_enc cInt cInt a b) (decide_eq_true h)
theorem gcd_big {a b : Int} (h : 0 < b ∧ b < 2 ^ 190) : Int.gcd a b ≠ 0 ∧ Int.gcd a b < 1606938044258990275541962092341162602522202993782792835301376 := by
  have g0 := gcd_pos (a := a) h.1
  have g1 := gcd_le (a := a) h.1
  have h3 : (2 : Int) ^ 190 < 1606938044258990275541962092341162602522202993782792835301376 := by decide
  have h2 := Int.lt_trans h.2 h3
  omega
theorem r_fraction : ∀ ds d, SS id_fraction ds = some d → run optM C0 SS G0 n_fraction.length b_fraction ds = some d := by
  intro ds d h
  obtain ⟨⟨a, b⟩, h1, hp, rfl⟩ := spec_some (show S_frG ds = some d from h)
  obtain rfl := A2_some h1
  simp only [okG, decide_eq_true_eq] at hp
  refine run_of ?_
  have e := SS_common (a := a) (b := b) hp
  have n0 : ¬ b < 0 := by omega
  obtain ⟨g2, g3⟩ := gcd_big (a := a) (b := b) hp
  unfold b_fraction
  simp [esc, escs, e, n0, g2, g3, fr, e_F]
theorem SS_fraction {a b : Int} (h : okG a b = true) : SS id_fraction [.int a, .int b] = some (cF.enc (fr a b)) := by
  show S_frG _ = _
  unfold S_frG
  exact spec_of (A2_enc cInt cInt a b) h
theorem okS_it {p q : Int × Int} (h : okS p q = true) : PV.small64 p.2 = true ∧ PV.small64 q.2 = true := by
  unfold okS at h
  simpa using h
theorem r_minus : ∀ ds d, SS id_minus ds = some d → run optM C0 SS G0 n_minus.length b_minus ds = some d := by
  intro ds d h
  obtain ⟨⟨p, q⟩, h1, hp, rfl⟩ := spec_some (show S_sub ds = some d from h)
  obtain rfl := A2_some h1
  have hp : okSub p q = true := hp
  unfold okSub at hp
  simp only [Bool.and_eq_true] at hp
  obtain ⟨s1, s2⟩ := okS_it hp.1
  have e := SS_fraction (a := p.1 * q.2 - q.1 * p.2) (b := p.2 * q.2) hp.2
  skip
  refine run_of ?_
  unfold b_minus fsub
  simp [esc, escs, e_F, s1, s2, e]
theorem SS_minus {p q : Fr2} (h : okSub p q = true) : SS id_minus [cF.enc p, cF.enc q] = some (cF.enc (fsub p q)) := by
  show S_sub _ = _
  unfold S_sub
  exact spec_of (A2_enc cF cF p q) h
theorem r_times : ∀ ds d, SS id_times ds = some d → run optM C0 SS G0 n_times.length b_times ds = some d := by
  intro ds d h
  obtain ⟨⟨p, q⟩, h1, hp, rfl⟩ := spec_some (show S_mul ds = some d from h)
  obtain rfl := A2_some h1
  have hp : okMul p q = true := hp
  unfold okMul at hp
  simp only [Bool.and_eq_true] at hp
  obtain ⟨s1, s2⟩ := okS_it hp.1
  have e := SS_fraction (a := p.1 * q.1) (b := p.2 * q.2) hp.2.2
  have m1 := hp.2.1
  refine run_of ?_
  unfold b_times fmul
  simp [esc, escs, e_F, s1, s2, e, m1]
theorem SS_times {p q : Fr2} (h : okMul p q = true) : SS id_times [cF.enc p, cF.enc q] = some (cF.enc (fmul p q)) := by
  show S_mul _ = _
  unfold S_mul
  exact spec_of (A2_enc cF cF p q) h
theorem r_is_less : ∀ ds d, SS id_is_less ds = some d → run optM C0 SS G0 n_is_less.length b_is_less ds = some d := by
  intro ds d h
  obtain ⟨⟨p, q⟩, h1, hp, rfl⟩ := spec_some (show S_lt ds = some d from h)
  obtain rfl := A2_some h1
  obtain ⟨s1, s2⟩ := okS_it hp
  refine run_of ?_
  unfold b_is_less flt
  simp [esc, escs, e_F, s1, s2]
theorem SS_is_less {p q : Fr2} (h : okS p q = true) : SS id_is_less [cF.enc p, cF.enc q] = some (.bool (flt p q)) := by
  show S_lt _ = _
  unfold S_lt
  exact spec_of (A2_enc cF cF p q) h
theorem r_law_common : ∀ ds d, SS id_law_common ds = some d → run optM C0 SS G0 n_law_common.length b_law_common ds = some d := by
  intro ds d h
  obtain ⟨⟨a, b⟩, h1, hp, rfl⟩ := spec_some (show S_comG ds = some d from h)
  obtain rfl := A2_some h1
  simp only [decide_eq_true_eq] at hp
  refine run_of ?_
  have key := forL_brk (g := fBody C0 SS G0 (.nm 2) law_common_B0) (ρ0 := [.sh (.int a), .sh (.int b), .no]) (fun s : Int × Int => [.sh (.int s.1), .sh (.int s.2), .no]) (fun s => (s.2, s.1.fmod s.2)) (fun s => !decide (s.2 = 0)) (fun _ => True) (fun s d _ => by
    by_cases h0 : s.2 = 0
    · refine ⟨fun z => by simp [h0] at z, fun _ => ⟨[.sh (.int s.1), .sh (.int s.2), .sh d], ?_, by simp⟩⟩
      simp [fBody, law_common_B0, esc, escs, h0]
    · refine ⟨fun _ => ⟨⟨[.sh (.int s.2), .sh (.int (s.1.fmod s.2)), .sh d], ?_, by simp⟩, trivial⟩, fun z => by simp [h0] at z⟩
      simp [fBody, law_common_B0, esc, escs, setAll, h0]) (rng 0 400) (a, b) trivial
  have hlen : (rng 0 400).length = 400 := by rw [rng_map, List.length_map, List.length_range]; rfl
  rw [hlen] at key
  obtain ⟨f1, f2⟩ := euclid 400 190 (a, b) (by simp only; omega) hp.2 (by decide)
  generalize loopN (fun s : Int × Int => (s.2, s.1.fmod s.2)) (fun s => !decide (s.2 = 0)) 400 (a, b) = z at key f1 f2
  have ok : okR 0 400 = true := by decide
  unfold b_law_common
  simp only at key f2
  simp [esc, escs, escF, ok, key, ← f2]
  split <;> omega
theorem SS_law_common {a b : Int} (h : 0 < b ∧ b < 2 ^ 190) : SS id_law_common [.int a, .int b] = some (.int (Int.gcd a b)) := SS_common h
theorem r_law_frac : ∀ ds d, SS id_law_frac ds = some d → run optM C0 SS G0 n_law_frac.length b_law_frac ds = some d := by
  intro ds d h
  obtain ⟨⟨a, b⟩, h1, hp, rfl⟩ := spec_some (show S_frG ds = some d from h)
  obtain rfl := A2_some h1
  simp only [okG, decide_eq_true_eq] at hp
  refine run_of ?_
  have e := SS_law_common (a := a) (b := b) hp
  have n0 : ¬ b < 0 := by omega
  obtain ⟨g2, g3⟩ := gcd_big (a := a) (b := b) hp
  unfold b_law_frac
  simp [esc, escs, e, n0, g2, g3, fr, e_F]
theorem SS_law_frac {a b : Int} (h : okG a b = true) : SS id_law_frac [.int a, .int b] = some (cF.enc (fr a b)) := by
  show S_frG _ = _
  unfold S_frG
  exact spec_of (A2_enc cInt cInt a b) h
theorem r_law_add : ∀ ds d, SS id_law_add ds = some d → run optM C0 SS G0 n_law_add.length b_law_add ds = some d := by
  intro ds d h
  obtain ⟨⟨p, q⟩, h1, hp, rfl⟩ := spec_some (show S_add ds = some d from h)
  obtain rfl := A2_some h1
  have hp : okAdd p q = true := hp
  unfold okAdd at hp
  simp only [Bool.and_eq_true] at hp
  obtain ⟨s1, s2⟩ := okS_it hp.1
  have e := SS_law_frac (a := p.1 * q.2 + q.1 * p.2) (b := p.2 * q.2) hp.2
  skip
  refine run_of ?_
  unfold b_law_add fadd
  simp [esc, escs, e_F, s1, s2, e]
theorem SS_law_add {p q : Fr2} (h : okAdd p q = true) : SS id_law_add [cF.enc p, cF.enc q] = some (cF.enc (fadd p q)) := by
  show S_add _ = _
  unfold S_add
  exact spec_of (A2_enc cF cF p q) h
theorem r_law_less : ∀ ds d, SS id_law_less ds = some d → run optM C0 SS G0 n_law_less.length b_law_less ds = some d := by
  intro ds d h
  obtain ⟨⟨p, q⟩, h1, hp, rfl⟩ := spec_some (show S_sub ds = some d from h)
  obtain rfl := A2_some h1
  have hp : okSub p q = true := hp
  unfold okSub at hp
  simp only [Bool.and_eq_true] at hp
  obtain ⟨s1, s2⟩ := okS_it hp.1
  have e := SS_law_frac (a := p.1 * q.2 - q.1 * p.2) (b := p.2 * q.2) hp.2
  skip
  refine run_of ?_
  unfold b_law_less fsub
  simp [esc, escs, e_F, s1, s2, e]
theorem SS_law_less {p q : Fr2} (h : okSub p q = true) : SS id_law_less [cF.enc p, cF.enc q] = some (cF.enc (fsub p q)) := by
  show S_sub _ = _
  unfold S_sub
  exact spec_of (A2_enc cF cF p q) h
theorem r_law_mul : ∀ ds d, SS id_law_mul ds = some d → run optM C0 SS G0 n_law_mul.length b_law_mul ds = some d := by
  intro ds d h
  obtain ⟨⟨p, q⟩, h1, hp, rfl⟩ := spec_some (show S_mul ds = some d from h)
  obtain rfl := A2_some h1
  have hp : okMul p q = true := hp
  unfold okMul at hp
  simp only [Bool.and_eq_true] at hp
  obtain ⟨s1, s2⟩ := okS_it hp.1
  have e := SS_law_frac (a := p.1 * q.1) (b := p.2 * q.2) hp.2.2
  have m1 := hp.2.1
  refine run_of ?_
  unfold b_law_mul fmul
  simp [esc, escs, e_F, s1, s2, e, m1]
theorem SS_law_mul {p q : Fr2} (h : okMul p q = true) : SS id_law_mul [cF.enc p, cF.enc q] = some (cF.enc (fmul p q)) := by
  show S_mul _ = _
  unfold S_mul
  exact spec_of (A2_enc cF cF p q) h
theorem r_law_below : ∀ ds d, SS id_law_below ds = some d → run optM C0 SS G0 n_law_below.length b_law_below ds = some d := by
  intro ds d h
  obtain ⟨⟨p, q⟩, h1, hp, rfl⟩ := spec_some (show S_lt ds = some d from h)
  obtain rfl := A2_some h1
  obtain ⟨s1, s2⟩ := okS_it hp
  refine run_of ?_
  unfold b_law_below flt
  simp [esc, escs, e_F, s1, s2]
theorem SS_law_below {p q : Fr2} (h : okS p q = true) : SS id_law_below [cF.enc p, cF.enc q] = some (.bool (flt p q)) := by
  show S_lt _ = _
  unfold S_lt
  exact spec_of (A2_enc cF cF p q) h
theorem r_law_total : ∀ ds d, SS id_law_total ds = some d → run optM C0 SS G0 n_law_total.length b_law_total ds = some d := by
  intro ds d h
  obtain ⟨xs, h1, hp, rfl⟩ := spec_some (show S_tot ds = some d from h)
  obtain rfl := A1_some h1
  refine run_of ?_
  have key := forL_fold (g := fBody C0 SS G0 (.nm 2) law_total_B0) (ρ0 := [.sh ((cL cF).enc xs), .sh (cF.enc (0, 1)), .no]) cF.enc
    (fun s : Fr2 => [.sh ((cL cF).enc xs), .sh (cF.enc s), .no]) fadd (fun s ys => okTot s ys = true) ?_ xs (0, 1) hp
  · have it : items ((cL cF).enc xs) = some (xs.map cF.enc) := rfl
    have e0 : cF.enc (0, 1) = .tuple [.int 0, .int 1] := rfl
    unfold ftot
    generalize (cL cF).enc xs = y at key it ⊢
    rw [e0] at key
    unfold b_law_total
    simp [esc, escs, escF, it, key]
  · intro s x ys hs
    unfold okTot at hs
    rw [Bool.and_eq_true] at hs
    have e := SS_law_add hs.1
    generalize (cL cF).enc xs = y
    have sl : ∀ e : E, slotOf e (cF.enc (fadd s x)) = .sh (cF.enc (fadd s x)) := fun e => slot_tup
    refine ⟨⟨[.sh y, .sh (cF.enc (fadd s x)), .sh (cF.enc x)], ?_, by simp⟩, hs.2⟩
    simp [fBody, law_total_B0, esc, escs, e, sl]
theorem SS_law_total {xs : List Fr2} (h : okTot (0, 1) xs = true) : SS id_law_total [.list (xs.map cF.enc)] = some (cF.enc (ftot xs)) := by
  show S_tot _ = _
  unfold S_tot
  exact spec_of (A1_enc (cL cF) xs) h
end PW

set_option maxHeartbeats 4000000
/-! The beams: fractions over one part below, in closed form; rests, lies, bends, reckoned. -/
namespace PW
open PySem PyProof.Rows L2 PV
structure Dn (p : Fr2) (N : Int) : Prop where
  red : Red p
  dvd : p.2 ∣ N
section
variable {p q : Fr2} {x y N M w : Int}
theorem FR.toDn (h : FR p x N) (r : Red p) : Dn p N := ⟨r, h.dvd r⟩
theorem Dn.pos (h : Dn p N) : 0 < p.2 := h.red.pos
theorem Dn.le (h : Dn p N) (hN : 0 < N) : p.2 ≤ N := Int.le_of_dvd hN h.dvd
theorem dn_int (a : Int) : Dn (a, 1) N := ⟨red_one a, Int.one_dvd _⟩
theorem dn_fr {a b : Int} (hb : 0 < b) : Dn (fr a b) b := FR.toDn (fr_rep hb) (fr_red hb)
theorem FR.add' (h : FR p x N) (h' : FR q y N) : FR (fadd p q) (x + y) N := by
  have := h.add h'
  rw [← Int.add_mul] at this
  exact FR.scale this h.pos2
theorem FR.sub' (h : FR p x N) (h' : FR q y N) : FR (fsub p q) (x - y) N := by
  have := h.sub h'
  rw [← Int.sub_mul] at this
  exact FR.scale this h.pos2
theorem FR.mulI (h : FR p x N) : FR (fmul p (w, 1)) (x * w) N := by
  have := h.mul (FR.one w)
  rw [Int.mul_one N] at this
  exact this
theorem red_add (hp : Dn p N) (hq : Dn q M) : Red (fadd p q) := fr_red (Int.mul_pos hp.pos hq.pos)
theorem red_sub (hp : Dn p N) (hq : Dn q M) : Red (fsub p q) := fr_red (Int.mul_pos hp.pos hq.pos)
theorem red_mul (hp : Dn p N) (hq : Dn q M) : Red (fmul p q) := fr_red (Int.mul_pos hp.pos hq.pos)
/-! closed forms -/
theorem add_c {a b : Int} (hN : 0 < N) : fadd (fr a N) (fr b N) = fr (a + b) N := FR.uniq (FR.add' (fr_rep hN) (fr_rep hN)) (red_add (dn_fr hN) (dn_fr hN)) (fr_rep hN) (fr_red hN) rfl
theorem sub_c {a b : Int} (hN : 0 < N) : fsub (fr a N) (fr b N) = fr (a - b) N := FR.uniq (FR.sub' (fr_rep hN) (fr_rep hN)) (red_sub (dn_fr hN) (dn_fr hN)) (fr_rep hN) (fr_red hN) rfl
theorem mul_c {a : Int} (hN : 0 < N) : fmul (fr a N) (w, 1) = fr (a * w) N := FR.uniq (FR.mulI (fr_rep hN)) (red_mul (dn_fr hN) (dn_int (N := 1) w)) (fr_rep hN) (fr_red hN) rfl
theorem int_c (a : Int) (hN : 0 < N) : ((a, 1) : Fr2) = fr (a * N) N := FR.uniq (FR.one a) (red_one a) (fr_rep hN) (fr_red hN) (by rw [Int.mul_one])
/-! what the model needs -/
theorem Dn.sm (h : Dn p N) (hN : 0 < N) (hb : N ≤ 1000) : PV.small64 p.2 = true := sm_abs (by have := h.le hN; have := h.pos; omega)
theorem prod_ok {a b : Int} (ha : 0 < a ∧ a ≤ 1000) (hb : 0 < b ∧ b ≤ 1000) : 0 < a * b ∧ a * b < 2 ^ 190 := by
  refine ⟨Int.mul_pos ha.1 hb.1, ?_⟩
  have h1 : a * b ≤ 1000 * b := Int.mul_le_mul_of_nonneg_right ha.2 (by omega)
  have h3 : (1000000 : Int) < 2 ^ 190 := by decide
  omega
theorem Dn.bd (h : Dn p N) (hN : 0 < N) (hb : N ≤ 1000) : 0 < p.2 ∧ p.2 ≤ 1000 := ⟨h.pos, Int.le_trans (h.le hN) hb⟩
theorem ok_lt (hp : Dn p N) (hq : Dn q M) (hN : 0 < N) (hM : 0 < M) (bN : N ≤ 1000) (bM : M ≤ 1000) : okS p q = true := by
  unfold okS
  rw [hp.sm hN bN, hq.sm hM bM]
  rfl
theorem ok_add (hp : Dn p N) (hq : Dn q M) (hN : 0 < N) (hM : 0 < M) (bN : N ≤ 1000) (bM : M ≤ 1000) : okAdd p q = true := by
  unfold okAdd
  rw [ok_lt hp hq hN hM bN bM, okG_of (prod_ok (hp.bd hN bN) (hq.bd hM bM))]
  rfl
theorem ok_sub (hp : Dn p N) (hq : Dn q M) (hN : 0 < N) (hM : 0 < M) (bN : N ≤ 1000) (bM : M ≤ 1000) : okSub p q = true := by
  unfold okSub
  rw [ok_lt hp hq hN hM bN bM, okG_of (prod_ok (hp.bd hN bN) (hq.bd hM bM))]
  rfl
theorem ok_mul (hp : Dn p N) (hq : Dn q M) (hN : 0 < N) (hM : 0 < M) (bN : N ≤ 1000) (bM : M ≤ 1000) (hs : PV.small64 q.1 = true) : okMul p q = true := by
  unfold okMul
  rw [ok_lt hp hq hN hM bN bM, okG_of (prod_ok (hp.bd hN bN) (hq.bd hM bM)), hs]
  simp
theorem okG_fr {a : Int} (h : 0 < N ∧ N ≤ 10000) : okG a N = true := okG_of ⟨h.1, by
  have h3 : (10000 : Int) < 2 ^ 190 := by decide
  omega⟩
theorem tot_ok (hM : 0 < M) (bM : M ≤ 1000) : ∀ (xs : List Fr2) (s : Fr2), Dn s M → (∀ x ∈ xs, Dn x M) → okTot s xs = true
  | [], s, hs, _ => rfl
  | x :: xs, s, hs, hx => by
    have h1 := hx x (by simp)
    have hd : Dn (fadd s x) M := by
      have e1 : FR s (s.1 * (M / s.2)) M := ⟨hs.pos, hM, by rw [Int.mul_assoc, Int.ediv_mul_cancel hs.dvd]⟩
      have e2 : FR x (x.1 * (M / x.2)) M := ⟨h1.pos, hM, by rw [Int.mul_assoc, Int.ediv_mul_cancel h1.dvd]⟩
      exact FR.toDn (FR.add' e1 e2) (red_add hs h1)
    have h2 := tot_ok hM bM xs (fadd s x) hd fun y hy => hx y (by simp [hy])
    unfold okTot
    rw [ok_add hs h1 hM hM bM bM, h2]
    rfl
theorem tot_c (hN : 0 < N) : ∀ (xs : List Int) (s : Int), (xs.map fun a => fr a N).foldl fadd (fr s N) = fr (s + xs.sum) N
  | [], s => by simp
  | x :: xs, s => by
    rw [List.map_cons, List.foldl_cons, add_c hN, tot_c hN xs, List.sum_cons, Int.add_assoc]
end
/-! things -/
theorem r_is_number : ∀ ds d, SS id_is_number ds = some d → run optM C0 SS G0 n_is_number.length b_is_number ds = some d := by
  intro ds d h
  obtain ⟨x, h1, hp, rfl⟩ := spec_some (show S_num ds = some d from h)
  obtain rfl := A1_some h1
  refine run_of ?_
  show exs optM C0 SS G0 b_is_number [.sh x] = some (.rt (.bool (numB x)))
  unfold b_is_number
  cases x <;> simp [esc, escs, dIs, numB]
theorem SS_is_number (d : D) : SS id_is_number [d] = some (.bool (numB d)) := by
  show S_num _ = _
  unfold S_num
  exact spec_of (A1_enc cD d) rfl
theorem r_law_is_number : ∀ ds d, SS id_law_is_number ds = some d → run optM C0 SS G0 n_law_is_number.length b_law_is_number ds = some d := r_is_number
theorem SS_law_is_number (d : D) : SS id_law_is_number [d] = some (.bool (numB d)) := SS_is_number d
theorem r_is_tuple_of : ∀ ds d, SS id_is_tuple_of ds = some d → run optM C0 SS G0 n_is_tuple_of.length b_is_tuple_of ds = some d := by
  intro ds d h
  obtain ⟨⟨x, n⟩, h1, hp, rfl⟩ := spec_some (show S_tup ds = some d from h)
  obtain rfl := A2_some h1
  refine run_of ?_
  show exs optM C0 SS G0 b_is_tuple_of [.sh x, .sh (.int n)] = some (.rt (.bool (tupB x n)))
  unfold b_is_tuple_of
  cases x <;> simp [esc, escs, dIs, tupB]
theorem SS_is_tuple_of (d : D) (n : Int) : SS id_is_tuple_of [d, .int n] = some (.bool (tupB d n)) := by
  show S_tup [cD.enc d, cInt.enc n] = _
  unfold S_tup
  exact spec_of (A2_enc cD cInt d n) rfl
theorem r_is_from : ∀ ds d, SS id_is_from ds = some d → run optM C0 SS G0 n_is_from.length b_is_from ds = some d := by
  intro ds d h
  obtain ⟨⟨x, n⟩, h1, hp, rfl⟩ := spec_some (show S_from ds = some d from h)
  obtain rfl := A2_some h1
  refine run_of ?_
  have e := SS_is_number x
  show exs optM C0 SS G0 b_is_from [.sh x, .sh (.int n)] = some (.rt (.bool (numB x && decide (n ≤ asI x))))
  unfold b_is_from
  cases x <;> simp [esc, escs, e, numB, asI] <;> rfl
theorem SS_is_from (d : D) (n : Int) : SS id_is_from [d, .int n] = some (.bool (numB d && decide (n ≤ asI d))) := by
  show S_from [cD.enc d, cInt.enc n] = _
  unfold S_from
  exact spec_of (A2_enc cD cInt d n) rfl
theorem r_law_is_bit : ∀ ds d, SS id_law_is_bit ds = some d → run optM C0 SS G0 n_law_is_bit.length b_law_is_bit ds = some d := by
  intro ds d h
  obtain ⟨⟨a, b⟩, h1, _, rfl⟩ := spec_some (show S_is_bit ds = some d from h)
  obtain rfl := A2_some h1
  refine run_of ?_
  have i1 : ∀ a b : Bool, dCmp .is_ (.bool a) (.bool b) = some (a == b) := fun a b => by cases a <;> cases b <;> rfl
  unfold b_law_is_bit
  cases a <;> cases b <;> simp [esc, escs, i1]
theorem SS_law_is_bit {a b : Bool} : SS id_law_is_bit [.bool a, .bool b] = some (.bool (a == b)) := by
  show S_is_bit _ = _
  unfold S_is_bit
  rw [show [PyData.bool a, PyData.bool b] = [cBool.enc a, cBool.enc b] from rfl, spec_of (A2_enc cBool cBool a b) rfl]
theorem r_is_beam : ∀ ds d, SS id_is_beam ds = some d → run optM C0 SS G0 n_is_beam.length b_is_beam ds = some d := by
  intro ds d h
  obtain ⟨x, h1, hp, rfl⟩ := spec_some (show S_isb ds = some d from h)
  obtain rfl := A1_some h1
  refine run_of ?_
  show exs optM C0 SS G0 b_is_beam [.sh x, .no, .no] = some (.rt (.bool (isbB x)))
  have e1 := SS_is_tuple_of x 2
  by_cases c : tupB x 2 = true
  · rw [c] at e1
    cases x with
    | tuple xs =>
      have hl : xs.length = 2 := by
        simp only [tupB, decide_eq_true_eq] at c
        omega
      match xs, hl with
      | [x, y], _ =>
        have e2 := SS_is_from x 1
        have e3 := SS_is_tuple_of y 2
        by_cases c2 : (numB x && decide (1 ≤ asI x)) = true
        · rw [c2] at e2
          by_cases c3 : tupB y 2 = true
          · rw [c3] at e3
            cases y with
            | tuple ys =>
              have hl : ys.length = 2 := by
                simp only [tupB, decide_eq_true_eq] at c3
                omega
              match ys, hl with
              | [a, b], _ =>
                have e4 := SS_is_number a
                have e5 := SS_is_number b
                have eb : isbB (.tuple [x, .tuple [a, b]]) = ((numB x && decide (1 ≤ asI x)) && (numB a && (numB b && (decide (0 ≤ asI a) && (decide (asI a < asI b) && decide (asI b ≤ asI x)))))) := rfl
                rw [eb, c2, Bool.true_and]
                cases x with
                | int l =>
                  cases a with
                  | int a =>
                    cases b with
                    | int b =>
                      simp only [numB, asI, Bool.true_and] at e4 e5 ⊢
                      by_cases d1 : 0 ≤ a
                      · by_cases d2 : a < b
                        · unfold b_is_beam
                          simp [esc, escs, e1, e2, e3, e4, e5, d1, d2]
                          rfl
                        · unfold b_is_beam
                          simp [esc, escs, e1, e2, e3, e4, e5, d1, d2]
                      · unfold b_is_beam
                        simp [esc, escs, e1, e2, e3, e4, e5, d1]
                    | _ => unfold b_is_beam; simp [esc, escs, e1, e2, e3, e4, e5, numB]
                  | _ => unfold b_is_beam; simp [esc, escs, e1, e2, e3, e4, e5, numB]
                | _ => simp [numB] at c2
            | _ => simp [tupB] at c3
          · have c3' : tupB y 2 = false := by simpa using c3
            rw [c3'] at e3
            have eb : isbB (.tuple [x, y]) = false := by
              unfold isbB
              split
              · rename_i x' a b e
                obtain ⟨rfl, rfl⟩ : x = x' ∧ y = .tuple [a, b] := by simpa using e
                simp [tupB] at c3
              · rfl
            rw [eb]
            unfold b_is_beam
            simp [esc, escs, e1, e2, e3]
        · have c2' : (numB x && decide (1 ≤ asI x)) = false := by simpa using c2
          rw [c2'] at e2
          have eb : isbB (.tuple [x, y]) = false := by
            unfold isbB
            split
            · rename_i x' a b e
              obtain ⟨rfl, rfl⟩ : x = x' ∧ y = .tuple [a, b] := by simpa using e
              rw [c2', Bool.false_and]
            · rfl
          rw [eb]
          unfold b_is_beam
          simp [esc, escs, e1, e2]
    | _ => simp [tupB] at c
  · have c' : tupB x 2 = false := by simpa using c
    rw [c'] at e1
    have eb : isbB x = false := by
      unfold isbB
      split
      · simp [tupB] at c
      · rfl
    rw [eb]
    unfold b_is_beam
    simp [esc, escs, e1]
theorem SS_is_beam (d : D) : SS id_is_beam [d] = some (.bool (isbB d)) := by
  show S_isb _ = _
  unfold S_isb
  exact spec_of (A1_enc cD d) rfl
end PW

set_option maxHeartbeats 4000000
/-! The beams: rests, lies, bends, reckoned. -/
namespace PW
open PySem PyProof.Rows L2 PV
theorem sm_w {x : Int} (h : 0 ≤ x ∧ x ≤ 1000) : PV.small64 x = true := sm_abs (by omega)
theorem s2_is (b : Bm) : ∀ l : Ld, s2S b l = tS l - b.2.1 * wS l
  | [] => by simp [s2S, tS, wS]
  | z :: l => by
    have ih := s2_is b l
    unfold s2S tS wS at *
    simp only [List.map_cons, List.sum_cons]
    rw [ih, Int.mul_add, Int.sub_mul]
    omega
theorem r1_is (b : Bm) (l : Ld) : r1S b l = b.2.2 * wS l - tS l := by
  unfold r1S dB
  rw [s2_is, Int.mul_sub, Int.mul_comm (wS l) b.2.2, Int.mul_comm (wS l) b.2.1]
  omega
theorem FR.num_nn {q : Int × Int} {c d : Int} (h : FR q c d) : 0 ≤ q.1 ↔ 0 ≤ c := by
  have e := h.eq
  have p1 := h.pos
  have p2 := h.pos2
  constructor
  · intro h1
    have h2 : 0 ≤ c * q.2 := by rw [← e]; exact Int.mul_nonneg h1 (by omega)
    exact Int.nonneg_of_mul_nonneg_left h2 p1
  · intro h1
    have h2 : 0 ≤ q.1 * d := by rw [e]; exact Int.mul_nonneg h1 (by omega)
    exact Int.nonneg_of_mul_nonneg_left h2 p2
theorem SS_rests_ {f : Nat} (hf : SS f = S_rests) {b : Bm} {l : Ld} (h : okBL b l = true) : SS f [cBm.enc b, cLd.enc l] = some (restsD b l) := by
  rw [hf]
  unfold S_rests
  exact spec_of (p := fun z : Bm × Ld => okBL z.1 z.2) (A2_enc cBm cLd b l) h
theorem r_rests : ∀ ds d, SS id_rests ds = some d → run optM C0 SS G0 n_rests.length b_rests ds = some d := by
  intro ds d h
  obtain ⟨⟨b, l⟩, h1, hp, rfl⟩ := spec_some (show S_rests ds = some d from h)
  obtain rfl := A2_some h1
  obtain ⟨hb, hl⟩ := okBL_it (b := b) (l := l) hp
  obtain ⟨hl1, hl2⟩ := okL_it hl
  have hD := dB_pos hb
  refine run_of ?_
  have g1 : dIx (cBm.enc b) (.int 1) = some (.tuple [.int b.2.1, .int b.2.2]) := rfl
  have it : items (cLd.enc l) = some (l.map cF.enc) := rfl
  have c1 : ∀ s0 s2 s3 s4 s5 : PV.Slot, compL optM (oStep C0 SS G0 (.tp (.cons (.nm 6) (.cons (.nm 7) .nil))) .yes (.var 7) [s0, .sh (cLd.enc l), s2, s3, s4, s5, .no, .no, .no]) (l.map cF.enc) = some (l.map fun z => .int z.2) := fun s0 s2 s3 s4 s5 => by
    refine compL_all fun z _ => ?_
    rw [e_F]
    simp [oStep]
  have c2' : ∀ s0 s3 s4 s5 : PV.Slot, compL optM (oStep C0 SS G0 (.tp (.cons (.nm 8) (.cons (.nm 7) .nil))) .yes (.bin .mul (.bin .sub (.var 8) (.var 2)) (.var 7)) [s0, .sh (cLd.enc l), .sh (.int b.2.1), s3, s4, s5, .no, .no, .no]) (l.map cF.enc) = some (l.map fun z => .int ((z.1 - b.2.1) * z.2)) := fun s0 s3 s4 s5 => by
    refine compL_all fun z hz => ?_
    have s := sm_w (hl2 z hz).2.2
    rw [e_F]
    simp [oStep, s]
  have e1 : dBi .sum (.list (l.map fun z => .int z.2)) = some (.int (wS l)) := i_sumf
  have e2 : dBi .sum (.list (l.map fun z => .int ((z.1 - b.2.1) * z.2))) = some (.int (s2S b l)) := i_sumf
  have e3 := SS_fraction (a := s2S b l) (b := dB b) (okG_fr (by omega))
  have e3 : SS id_fraction [.int (s2S b l), .int (b.2.2 - b.2.1)] = some (cF.enc (fr (s2S b l) (dB b))) := e3
  have e4 := SS_minus (p := (wS l, 1)) (q := fr (s2S b l) (dB b)) (ok_sub (dn_int (N := 1) _) (dn_fr hD.1) (by decide) hD.1 (by decide) (by omega))
  rw [int_c (wS l) hD.1, sub_c hD.1, ← int_c (wS l) hD.1] at e4
  have e4 : SS id_minus [.tuple [.int (wS l), .int 1], cF.enc (fr (s2S b l) (dB b))] = some (cF.enc (fr (r1S b l) (dB b))) := e4
  have sl : ∀ e : E, slotOf e (cF.enc (fr (s2S b l) (dB b))) = .sh (cF.enc (fr (s2S b l) (dB b))) := fun e => slot_tup
  show _ = some (Fl.rt (.tuple [cF.enc (fr (r1S b l) (dB b)), cF.enc (fr (s2S b l) (dB b))]))
  generalize cF.enc (fr (r1S b l) (dB b)) = v1 at e4 ⊢
  generalize cF.enc (fr (s2S b l) (dB b)) = v2 at e3 e4 sl ⊢
  generalize (l.map fun z => PyData.int z.2) = w1 at c1 e1
  generalize (l.map fun z => PyData.int ((z.1 - b.2.1) * z.2)) = w2 at c2' e2
  generalize l.map cF.enc = w at it c1 c2'
  generalize cLd.enc l = y at it c1 c2' ⊢
  generalize cBm.enc b = x at g1 ⊢
  unfold b_rests
  simp [esc, escs, escS, g1, it, c1, c2', e1, e2, e3, e4, sl]
theorem r_law_rests : ∀ ds d, SS id_law_rests ds = some d → run optM C0 SS G0 n_law_rests.length b_law_rests ds = some d := by
  intro ds d h
  obtain ⟨⟨b, l⟩, h1, hp, rfl⟩ := spec_some (show S_rests ds = some d from h)
  obtain rfl := A2_some h1
  obtain ⟨hb, hl⟩ := okBL_it (b := b) (l := l) hp
  obtain ⟨hl1, hl2⟩ := okL_it hl
  have hD := dB_pos hb
  refine run_of ?_
  have g1 : dIx (cBm.enc b) (.int 1) = some (.tuple [.int b.2.1, .int b.2.2]) := rfl
  have it : items (cLd.enc l) = some (l.map cF.enc) := rfl
  have c1 : ∀ s0 s4 : PV.Slot, compL optM (oStep C0 SS G0 (.tp (.cons (.nm 5) (.cons (.nm 6) .nil))) .yes (.call id_law_frac (.cons (.bin .mul (.var 6) (.bin .sub (.var 5) (.var 2))) (.cons (.bin .sub (.var 3) (.var 2)) .nil))) [s0, .sh (cLd.enc l), .sh (.int b.2.1), .sh (.int b.2.2), s4, .no, .no, .no]) (l.map cF.enc) = some ((l.map fun z => fr (z.2 * (z.1 - b.2.1)) (dB b)).map cF.enc) := fun s0 s4 => by
    rw [List.map_map]
    refine compL_all fun z hz => ?_
    have s := sm_w (hl2 z hz).2.2
    have e := SS_law_frac (a := z.2 * (z.1 - b.2.1)) (b := dB b) (okG_fr (by omega))
    have e : SS id_law_frac [.int (z.2 * (z.1 - b.2.1)), .int (b.2.2 - b.2.1)] = some (cF.enc (fr (z.2 * (z.1 - b.2.1)) (dB b))) := e
    show _ = some (some (cF.enc (fr (z.2 * (z.1 - b.2.1)) (dB b))))
    generalize cF.enc (fr (z.2 * (z.1 - b.2.1)) (dB b)) = v at e ⊢
    rw [e_F]
    simp [oStep, s, e]
  have c2' : ∀ s0 s2 s3 s4 s5 s6 : PV.Slot, compL optM (oStep C0 SS G0 (.nm 7) .yes (.ix (.var 7) (.int 1)) [s0, .sh (cLd.enc l), s2, s3, s4, s5, s6, .no]) (l.map cF.enc) = some (l.map fun z => .int z.2) := fun s0 s2 s3 s4 s5 s6 => by
    refine compL_all fun z _ => ?_
    rw [e_F]
    simp [oStep]
  have e1 : dBi .sum (.list (l.map fun z => .int z.2)) = some (.int (wS l)) := i_sumf
  have et := SS_law_total (xs := l.map fun z => fr (z.2 * (z.1 - b.2.1)) (dB b)) (tot_ok hD.1 (by omega) _ _ (dn_int (N := dB b) 0) fun x hx => by
    obtain ⟨z, _, rfl⟩ := List.mem_map.mp hx
    exact dn_fr hD.1)
  have ef : ftot (l.map fun z => fr (z.2 * (z.1 - b.2.1)) (dB b)) = fr (s2S b l) (dB b) := by
    have := tot_c hD.1 (l.map fun z => z.2 * (z.1 - b.2.1)) 0
    rw [List.map_map, Int.zero_add] at this
    unfold ftot
    rw [int_c 0 hD.1, Int.zero_mul]
    have e : (l.map fun z => z.2 * (z.1 - b.2.1)).sum = s2S b l := by
      unfold s2S
      congr 1
      exact List.map_congr_left fun z _ => Int.mul_comm _ _
    rw [e] at this
    exact this
  rw [ef] at et
  have e4 := SS_law_less (p := (wS l, 1)) (q := fr (s2S b l) (dB b)) (ok_sub (dn_int (N := 1) _) (dn_fr hD.1) (by decide) hD.1 (by decide) (by omega))
  rw [int_c (wS l) hD.1, sub_c hD.1, ← int_c (wS l) hD.1] at e4
  have e4 : SS id_law_less [.tuple [.int (wS l), .int 1], cF.enc (fr (s2S b l) (dB b))] = some (cF.enc (fr (r1S b l) (dB b))) := e4
  have sl : ∀ e : E, slotOf e (cF.enc (fr (s2S b l) (dB b))) = .sh (cF.enc (fr (s2S b l) (dB b))) := fun e => slot_tup
  show _ = some (Fl.rt (.tuple [cF.enc (fr (r1S b l) (dB b)), cF.enc (fr (s2S b l) (dB b))]))
  generalize cF.enc (fr (r1S b l) (dB b)) = v1 at e4 ⊢
  generalize cF.enc (fr (s2S b l) (dB b)) = v2 at et e4 sl ⊢
  generalize (l.map fun z => PyData.int z.2) = w1 at c2' e1
  generalize (l.map fun z => fr (z.2 * (z.1 - b.2.1)) (dB b)).map cF.enc = w2 at c1 et
  generalize l.map cF.enc = w at it c1 c2'
  generalize cLd.enc l = y at it c1 c2' ⊢
  generalize cBm.enc b = x at g1 ⊢
  unfold b_law_rests
  simp [esc, escs, escS, g1, it, c1, c2', e1, et, e4, sl]
theorem SS_rests {b : Bm} {l : Ld} (h : okBL b l = true) : SS id_rests [cBm.enc b, cLd.enc l] = some (restsD b l) := SS_rests_ (f := 23) rfl h
theorem SS_law_rests {b : Bm} {l : Ld} (h : okBL b l = true) : SS id_law_rests [cBm.enc b, cLd.enc l] = some (restsD b l) := SS_rests_ (f := 27) rfl h
theorem r_lies : ∀ ds d, SS id_lies ds = some d → run optM C0 SS G0 n_lies.length b_lies ds = some d := by
  intro ds d h
  obtain ⟨⟨b, l⟩, h1, hp, rfl⟩ := spec_some (show S_lies ds = some d from h)
  obtain rfl := A2_some h1
  obtain ⟨hb, hl⟩ := okBL_it (b := b) (l := l) hp
  have hD := dB_pos hb
  refine run_of ?_
  have e1 := SS_rests (b := b) (l := l) hp
  have it : items (restsD b l) = some ([fr (r1S b l) (dB b), fr (s2S b l) (dB b)].map cF.enc) := rfl
  have cc : ∀ s0 s1 : PV.Slot, compL optM (oStep C0 SS G0 (.nm 2) .yes (.cmp .ge (.ix (.var 2) (.int 0)) (.int 0)) [s0, s1, .no]) ([fr (r1S b l) (dB b), fr (s2S b l) (dB b)].map cF.enc) = some ([fr (r1S b l) (dB b), fr (s2S b l) (dB b)].map fun p => .bool (decide (0 ≤ p.1))) := fun s0 s1 => by
    refine compL_all fun p _ => ?_
    rw [e_F]
    simp [oStep]
  have ea : dBi .all (.list ([fr (r1S b l) (dB b), fr (s2S b l) (dB b)].map fun p => .bool (decide (0 ≤ p.1)))) = some (.bool ([fr (r1S b l) (dB b), fr (s2S b l) (dB b)].all fun p => decide (0 ≤ p.1))) := i_allf
  have el : ([fr (r1S b l) (dB b), fr (s2S b l) (dB b)].all fun p => decide (0 ≤ p.1)) = liesB b l := by
    have f1 := FR.num_nn (fr_rep (a := r1S b l) hD.1)
    have f2 := FR.num_nn (fr_rep (a := s2S b l) hD.1)
    unfold liesB
    simp only [List.all_cons, List.all_nil, Bool.and_true]
    rw [Bool.and_comm]
    congr 1
    · refine decide_eq_decide.mpr (f2.trans ?_)
      rw [s2_is]
      omega
    · refine decide_eq_decide.mpr (f1.trans ?_)
      rw [r1_is]
      omega
  rw [el] at ea
  show _ = some (Fl.rt (.bool (liesB b l)))
  generalize ([fr (r1S b l) (dB b), fr (s2S b l) (dB b)].map fun p => PyData.bool (decide (0 ≤ p.1))) = w at cc ea
  generalize [fr (r1S b l) (dB b), fr (s2S b l) (dB b)].map cF.enc = v at it cc
  generalize restsD b l = y at e1 it
  generalize liesB b l = q at ea ⊢
  generalize cLd.enc l = y at e1 ⊢
  generalize cBm.enc b = x at e1 ⊢
  unfold b_lies
  simp [esc, escs, escS, e1, it, cc, ea]
theorem SS_lies_ {f : Nat} (hf : SS f = S_lies) {b : Bm} {l : Ld} (h : okBL b l = true) : SS f [cBm.enc b, cLd.enc l] = some (.bool (liesB b l)) := by
  rw [hf]
  unfold S_lies
  exact spec_of (p := fun z : Bm × Ld => okBL z.1 z.2) (A2_enc cBm cLd b l) h
theorem SS_lies {b : Bm} {l : Ld} (h : okBL b l = true) : SS id_lies [cBm.enc b, cLd.enc l] = some (.bool (liesB b l)) := SS_lies_ (f := 25) rfl h
theorem SS_law_lies {b : Bm} {l : Ld} (h : okBL b l = true) : SS id_law_lies [cBm.enc b, cLd.enc l] = some (.bool (liesB b l)) := SS_lies_ (f := 12) rfl h
theorem r_law_lies : ∀ ds d, SS id_law_lies ds = some d → run optM C0 SS G0 n_law_lies.length b_law_lies ds = some d := by
  intro ds d h
  obtain ⟨⟨b, l⟩, h1, hp, rfl⟩ := spec_some (show S_lies ds = some d from h)
  obtain rfl := A2_some h1
  obtain ⟨hb, hl⟩ := okBL_it (b := b) (l := l) hp
  obtain ⟨hl1, hl2⟩ := okL_it hl
  have hbb := okB_it hb
  refine run_of ?_
  have g1 : dIx (cBm.enc b) (.int 1) = some (.tuple [.int b.2.1, .int b.2.2]) := rfl
  have it : items (cLd.enc l) = some (l.map cF.enc) := rfl
  have c1 : ∀ s2 s3 s5 s6 : PV.Slot, compL optM (oStep C0 SS G0 (.nm 4) .yes (.ix (.var 4) (.int 1)) [.sh (cBm.enc b), .sh (cLd.enc l), s2, s3, .no, s5, s6]) (l.map cF.enc) = some (l.map fun z => .int z.2) := fun s2 s3 s5 s6 => by
    refine compL_all fun z _ => ?_
    rw [e_F]
    simp [oStep]
  have c2' : ∀ s2 s3 s4 : PV.Slot, compL optM (oStep C0 SS G0 (.tp (.cons (.nm 5) (.cons (.nm 6) .nil))) .yes (.bin .mul (.var 5) (.var 6)) [.sh (cBm.enc b), .sh (cLd.enc l), s2, s3, s4, .no, .no]) (l.map cF.enc) = some (l.map fun z => .int (z.1 * z.2)) := fun s2 s3 s4 => by
    refine compL_all fun z hz => ?_
    have s := sm_w (hl2 z hz).2.2
    rw [e_F]
    simp [oStep, s]
  have e1 : dBi .sum (.list (l.map fun z => .int z.2)) = some (.int (wS l)) := i_sumf
  have e2 : dBi .sum (.list (l.map fun z => .int (z.1 * z.2))) = some (.int (tS l)) := i_sumf
  have m1 : PV.small64 b.2.1 = true := sm_w (by omega)
  have m2 : PV.small64 b.2.2 = true := sm_w (by omega)
  show _ = some (Fl.rt (.bool (decide (b.2.1 * wS l ≤ tS l) && decide (tS l ≤ b.2.2 * wS l))))
  generalize (l.map fun z => PyData.int z.2) = w1 at c1 e1
  generalize (l.map fun z => PyData.int (z.1 * z.2)) = w2 at c2' e2
  generalize l.map cF.enc = w at it c1 c2'
  generalize cLd.enc l = y at it c1 c2' ⊢
  generalize cBm.enc b = x at g1 c1 c2' ⊢
  generalize wS l = u1 at e1 ⊢
  generalize tS l = u2 at e2 ⊢
  unfold b_law_lies
  by_cases d1 : b.2.1 * u1 ≤ u2
  · simp [esc, escs, escS, g1, it, c1, c2', e1, e2, m1, m2, d1]
  · simp [esc, escs, escS, g1, it, c1, c2', e1, e2, m1, m2, d1]
/-! bends -/
def bnStep (p : Int) (x : Int) (z : Int × Int) : Int := if z.1 < p then x - z.2 * (p - z.1) else x
def enZ (N : Int) (z : Int × Int) : D := .tuple [.int z.1, cF.enc (fr z.2 N)]
theorem r_bends_at : ∀ ds d, SS id_bends_at ds = some d → run optM C0 SS G0 n_bends_at.length b_bends_at ds = some d := by
  intro ds d h
  obtain ⟨⟨b, l, p⟩, h1, hp, rfl⟩ := spec_some (show S_bend ds = some d from h)
  obtain rfl := A3_some h1
  simp only [Bool.and_eq_true, decide_eq_true_eq] at hp
  obtain ⟨hp, hpp⟩ := hp
  have hpp : 0 ≤ p ∧ p ≤ 10 := hpp
  have hp : okBL b l = true := hp
  obtain ⟨hb, hl⟩ := okBL_it hp
  obtain ⟨hl1, hl2⟩ := okL_it hl
  have hbb := okB_it hb
  have hD := dB_pos hb
  refine run_of ?_
  show exs optM C0 SS G0 b_bends_at [.sh (cBm.enc b), .sh (cLd.enc l), .sh (.int p), .no, .no, .no, .no, .no] = some (.rt (cF.enc (bendP b l p)))
  have g1 : dIx (cBm.enc b) (.int 1) = some (.tuple [.int b.2.1, .int b.2.2]) := rfl
  have it : items (cLd.enc l) = some (l.map cF.enc) := rfl
  have c1 : ∀ s0 s3 s4 s5 : PV.Slot, compL optM (oStep C0 SS G0 (.tp (.cons (.nm 6) (.cons (.nm 7) .nil))) (.cmp .lt (.var 6) (.var 2)) (.bin .mul (.bin .sub (.var 2) (.var 6)) (.var 7)) [s0, .sh (cLd.enc l), .sh (.int p), s3, s4, s5, .no, .no]) (l.map cF.enc) = some ((l.filter fun z => decide (z.1 < p)).map fun z => .int ((p - z.1) * z.2)) := fun s0 s3 s4 s5 => by
    refine compL_fil (p := fun z : Int × Int => decide (z.1 < p)) fun z hz => ?_
    have s := sm_w (hl2 z hz).2.2
    rw [e_F]
    by_cases c : z.1 < p <;> simp [oStep, s, c]
  have e1 : dBi .sum (.list ((l.filter fun z => decide (z.1 < p)).map fun z => .int ((p - z.1) * z.2))) = some (.int (nearS l p)) := i_sumf
  have er := SS_rests hp
  have ez : zipD (.tuple [.int b.2.1, .int b.2.2]) (restsD b l) = some ([(b.2.1, r1S b l), (b.2.2, s2S b l)].map (enZ (dB b))) := rfl
  have e0 : cF.enc (fr (nearS l p * dB b) (dB b)) = .tuple [.int (nearS l p), .int 1] := by rw [← int_c (nearS l p) hD.1]; rfl
  have key := forL_fold (g := fBody C0 SS G0 (.tp (.cons (.nm 4) (.cons (.nm 5) .nil))) bends_at_B0) (ρ0 := [.sh (cBm.enc b), .sh (cLd.enc l), .sh (.int p), .sh (cF.enc (fr (nearS l p * dB b) (dB b))), .no, .no, .no, .no]) (enZ (dB b)) (fun x : Int => [.sh (cBm.enc b), .sh (cLd.enc l), .sh (.int p), .sh (cF.enc (fr x (dB b))), .no, .no, .no, .no]) (bnStep p) (fun _ xs => ∀ z ∈ xs, 0 ≤ z.1 ∧ z.1 ≤ 9) (fun x z xs hI => by
    have hz := hI z (by simp)
    have t1 := SS_times (p := fr z.2 (dB b)) (q := (p - z.1, 1)) (ok_mul (dn_fr hD.1) (dn_int (N := 1) _) hD.1 (by decide) (by omega) (by decide) (sm_abs (by simp only; omega)))
    rw [mul_c hD.1] at t1
    have t1 : SS id_times [cF.enc (fr z.2 (dB b)), .tuple [.int (p - z.1), .int 1]] = some (cF.enc (fr (z.2 * (p - z.1)) (dB b))) := t1
    have t2 := SS_minus (p := fr x (dB b)) (q := fr (z.2 * (p - z.1)) (dB b)) (ok_sub (dn_fr hD.1) (dn_fr hD.1) hD.1 hD.1 (by omega) (by omega))
    rw [sub_c hD.1] at t2
    refine ⟨⟨[.sh (cBm.enc b), .sh (cLd.enc l), .sh (.int p), .sh (cF.enc (fr (bnStep p x z) (dB b))), .sh (.int z.1), .sh (cF.enc (fr z.2 (dB b))), .no, .no], ?_, by simp⟩, fun y hy => hI y (by simp [hy])⟩
    unfold enZ bnStep
    by_cases c : z.1 < p
    · rw [if_pos c]
      have sl : ∀ e : E, slotOf e (cF.enc (fr (x - z.2 * (p - z.1)) (dB b))) = .sh (cF.enc (fr (x - z.2 * (p - z.1)) (dB b))) := fun e => slot_tup
      generalize cF.enc (fr (x - z.2 * (p - z.1)) (dB b)) = v1 at t2 sl ⊢
      generalize cF.enc (fr (z.2 * (p - z.1)) (dB b)) = v2 at t1 t2
      generalize cF.enc (fr z.2 (dB b)) = v3 at t1 ⊢
      generalize cF.enc (fr x (dB b)) = v4 at t2 ⊢
      simp [fBody, bends_at_B0, esc, escs, c, t1, t2, sl]
    · rw [if_neg c]
      generalize cF.enc (fr z.2 (dB b)) = v3
      generalize cF.enc (fr x (dB b)) = v4
      simp [fBody, bends_at_B0, esc, escs, c]) [(b.2.1, r1S b l), (b.2.2, s2S b l)] (nearS l p * dB b) (by
      intro z hz
      simp only [List.mem_cons, List.not_mem_nil, or_false] at hz
      rcases hz with rfl | rfl <;> simp only <;> omega)
  have ef : [(b.2.1, r1S b l), (b.2.2, s2S b l)].foldl (bnStep p) (nearS l p * dB b) = bendX b l p := by
    unfold bendX
    simp only [List.foldl_cons, List.foldl_nil, bnStep]
    by_cases d1 : b.2.1 < p <;> by_cases d2 : b.2.2 < p <;> simp [d1, d2]
  rw [ef, e0] at key
  unfold bendP
  generalize cF.enc (fr (bendX b l p) (dB b)) = v at key ⊢
  generalize ((l.filter fun z => decide (z.1 < p)).map fun z => PyData.int ((p - z.1) * z.2)) = w1 at c1 e1
  generalize [(b.2.1, r1S b l), (b.2.2, s2S b l)].map (enZ (dB b)) = w2 at ez key
  generalize restsD b l = rr at er ez
  generalize l.map cF.enc = w at it c1
  generalize cLd.enc l = y at it c1 er key ⊢
  generalize cBm.enc b = x at g1 er key ⊢
  unfold b_bends_at
  simp [esc, escs, escS, escF, g1, it, c1, e1, er, ez, key]
theorem SS_bend_ {f : Nat} (hf : SS f = S_bend) {b : Bm} {l : Ld} {p : Int} (h : okBL b l = true) (hp : 0 ≤ p ∧ p ≤ 10) : SS f [cBm.enc b, cLd.enc l, .int p] = some (cF.enc (bendP b l p)) := by
  rw [hf]
  show S_bend [cBm.enc b, cLd.enc l, cInt.enc p] = _
  unfold S_bend
  have hh : (okBL b l && decide (0 ≤ p ∧ p ≤ 10)) = true := by rw [h, decide_eq_true hp]; rfl
  exact spec_of (p := fun z : Bm × Ld × Int => okBL z.1 z.2.1 && decide (0 ≤ z.2.2 ∧ z.2.2 ≤ 10)) (f := fun z : Bm × Ld × Int => cF.enc (bendP z.1 z.2.1 z.2.2)) (t := (b, l, p)) (A3_enc cBm cLd cInt b l p) hh
theorem SS_bends_at {b : Bm} {l : Ld} {p : Int} (h : okBL b l = true) (hp : 0 ≤ p ∧ p ≤ 10) : SS id_bends_at [cBm.enc b, cLd.enc l, .int p] = some (cF.enc (bendP b l p)) := SS_bend_ (f := 26) rfl h hp
theorem SS_law_bend {b : Bm} {l : Ld} {p : Int} (h : okBL b l = true) (hp : 0 ≤ p ∧ p ≤ 10) : SS id_law_bend [cBm.enc b, cLd.enc l, .int p] = some (cF.enc (bendP b l p)) := SS_bend_ (f := 31) rfl h hp
def lbStep (p : Int) (x : Int) (z : Int × Int) : Int := if z.1 < p then x + z.2 * (p - z.1) else x
def prps (b : Bm) (l : Ld) (k : Nat) : Int × Int := if k = 0 then (b.2.1, -r1S b l) else (b.2.2, -s2S b l)
theorem near_fold (N p : Int) : ∀ (l : Ld) (x : Int), (l.map fun z => (z.1, z.2 * N)).foldl (lbStep p) x = x + nearS l p * N
  | [], x => by simp [nearS]
  | z :: l, x => by
    rw [List.map_cons, List.foldl_cons, near_fold N p l]
    unfold lbStep nearS
    by_cases c : z.1 < p
    · rw [if_pos c, List.filter_cons_of_pos (by simpa using c), List.map_cons, List.sum_cons, Int.add_mul]
      have : z.2 * N * (p - z.1) = (p - z.1) * z.2 * N := by
        rw [Int.mul_comm (z.2 * N) (p - z.1), Int.mul_assoc]
      simp only [this]
      omega
    · rw [if_neg c, List.filter_cons_of_neg (by simpa using c)]
theorem r_law_bend : ∀ ds d, SS id_law_bend ds = some d → run optM C0 SS G0 n_law_bend.length b_law_bend ds = some d := by
  intro ds d h
  obtain ⟨⟨b, l, p⟩, h1, hp, rfl⟩ := spec_some (show S_bend ds = some d from h)
  obtain rfl := A3_some h1
  simp only [Bool.and_eq_true, decide_eq_true_eq] at hp
  obtain ⟨hp, hpp⟩ := hp
  have hpp : 0 ≤ p ∧ p ≤ 10 := hpp
  have hp : okBL b l = true := hp
  obtain ⟨hb, hl⟩ := okBL_it hp
  obtain ⟨hl1, hl2⟩ := okL_it hl
  have hbb := okB_it hb
  have hD := dB_pos hb
  refine run_of ?_
  show exs optM C0 SS G0 b_law_bend [.sh (cBm.enc b), .sh (cLd.enc l), .sh (.int p), .no, .no, .no, .no, .no, .no] = some (.rt (cF.enc (bendP b l p)))
  have g1 : dIx (cBm.enc b) (.int 1) = some (.tuple [.int b.2.1, .int b.2.2]) := rfl
  have it : items (cLd.enc l) = some (l.map cF.enc) := rfl
  have c1 : ∀ s0 s2 s3 s4 s6 s8 : PV.Slot, compL optM (oStep C0 SS G0 (.tp (.cons (.nm 5) (.cons (.nm 7) .nil))) .yes (.tup (.cons (.var 5) (.cons (.tup (.cons (.var 7) (.cons (.int 1) .nil))) .nil))) [s0, .sh (cLd.enc l), s2, s3, s4, .no, s6, .no, s8]) (l.map cF.enc) = some ((l.map fun z => (z.1, z.2 * dB b)).map (enZ (dB b))) := fun s0 s2 s3 s4 s6 s8 => by
    rw [List.map_map]
    refine compL_all fun z _ => ?_
    have e : ((enZ (dB b) ∘ fun z : Int × Int => (z.1, z.2 * dB b)) z) = .tuple [.int z.1, .tuple [.int z.2, .int 1]] := by
      show PyData.tuple [.int z.1, cF.enc (fr (z.2 * dB b) (dB b))] = _
      rw [← int_c z.2 hD.1]
      rfl
    rw [e, e_F]
    simp [oStep]
  have er := SS_law_rests hp
  have c2' : ∀ s3 s4 s5 s6 s7 : PV.Slot, compL optM (oStep C0 SS G0 (.nm 8) .yes (.tup (.cons (.ix (.ix (.var 0) (.int 1)) (.var 8)) (.cons (.call id_law_less (.cons (.tup (.cons (.int 0) (.cons (.int 1) .nil))) (.cons (.ix (.call id_law_rests (.cons (.var 0) (.cons (.var 1) .nil))) (.var 8)) .nil))) .nil))) [.sh (cBm.enc b), .sh (cLd.enc l), .sh (.int p), s3, s4, s5, s6, s7, .no]) ((List.range 2).map cNat.enc) = some (((List.range 2).map (prps b l)).map (enZ (dB b))) := fun s3 s4 s5 s6 s7 => by
    rw [List.map_map]
    refine compL_all fun k hk => ?_
    have hk := List.mem_range.mp hk
    have ls : ∀ X : Int, SS id_law_less [.tuple [.int 0, .int 1], cF.enc (fr X (dB b))] = some (cF.enc (fr (-X) (dB b))) := fun X => by
      have e4 := SS_law_less (p := (0, 1)) (q := fr X (dB b)) (ok_sub (dn_int (N := 1) _) (dn_fr hD.1) (by decide) hD.1 (by decide) (by omega))
      rw [int_c 0 hD.1, sub_c hD.1, ← int_c 0 hD.1, Int.zero_mul, Int.zero_sub] at e4
      exact e4
    rcases (show k = 0 ∨ k = 1 by omega) with rfl | rfl
    · have e4 := ls (r1S b l)
      have g2 : dIx (restsD b l) (.int 0) = some (cF.enc (fr (r1S b l) (dB b))) := rfl
      show oStep _ _ _ _ _ _ _ (.int 0) = some (some (.tuple [.int b.2.1, cF.enc (fr (-r1S b l) (dB b))]))
      generalize cF.enc (fr (-r1S b l) (dB b)) = v1 at e4 ⊢
      generalize cF.enc (fr (r1S b l) (dB b)) = v2 at e4 g2
      generalize restsD b l = rr at er g2
      generalize cLd.enc l = y at er ⊢
      generalize cBm.enc b = x at g1 er ⊢
      simp [oStep, g1, er, g2, e4]
    · have e4 := ls (s2S b l)
      have g2 : dIx (restsD b l) (.int 1) = some (cF.enc (fr (s2S b l) (dB b))) := rfl
      show oStep _ _ _ _ _ _ _ (.int 1) = some (some (.tuple [.int b.2.2, cF.enc (fr (-s2S b l) (dB b))]))
      generalize cF.enc (fr (-s2S b l) (dB b)) = v1 at e4 ⊢
      generalize cF.enc (fr (s2S b l) (dB b)) = v2 at e4 g2
      generalize restsD b l = rr at er g2
      generalize cLd.enc l = y at er ⊢
      generalize cBm.enc b = x at g1 er ⊢
      simp [oStep, g1, er, g2, e4]
  have e0 : cF.enc (fr (0 * dB b) (dB b)) = .tuple [.int 0, .int 1] := by rw [← int_c 0 hD.1]; rfl
  rw [Int.zero_mul] at e0
  have ok2 : okR 0 2 = true := by decide
  have er2 : rng 0 2 = (List.range 2).map cNat.enc := rng_nat 2
  have key := forL_fold (g := fBody C0 SS G0 (.tp (.cons (.nm 5) (.cons (.nm 6) .nil))) law_bend_B0) (ρ0 := [.sh (cBm.enc b), .sh (cLd.enc l), .sh (.int p), .sh (cF.enc (fr 0 (dB b))), .sh (.list (((l.map fun z => (z.1, z.2 * dB b)) ++ (List.range 2).map (prps b l)).map (enZ (dB b)))), .no, .no, .no, .no]) (enZ (dB b)) (fun x : Int => [.sh (cBm.enc b), .sh (cLd.enc l), .sh (.int p), .sh (cF.enc (fr x (dB b))), .sh (.list (((l.map fun z => (z.1, z.2 * dB b)) ++ (List.range 2).map (prps b l)).map (enZ (dB b)))), .no, .no, .no, .no]) (lbStep p) (fun _ xs => ∀ z ∈ xs, 0 ≤ z.1 ∧ z.1 ≤ 9) (fun x z xs hI => by
    have hz := hI z (by simp)
    have t1 := SS_law_mul (p := fr z.2 (dB b)) (q := (p - z.1, 1)) (ok_mul (dn_fr hD.1) (dn_int (N := 1) _) hD.1 (by decide) (by omega) (by decide) (sm_abs (by simp only; omega)))
    rw [mul_c hD.1] at t1
    have t1 : SS id_law_mul [cF.enc (fr z.2 (dB b)), .tuple [.int (p - z.1), .int 1]] = some (cF.enc (fr (z.2 * (p - z.1)) (dB b))) := t1
    have t2 := SS_law_add (p := fr x (dB b)) (q := fr (z.2 * (p - z.1)) (dB b)) (ok_add (dn_fr hD.1) (dn_fr hD.1) hD.1 hD.1 (by omega) (by omega))
    rw [add_c hD.1] at t2
    refine ⟨⟨[.sh (cBm.enc b), .sh (cLd.enc l), .sh (.int p), .sh (cF.enc (fr (lbStep p x z) (dB b))), .sh (.list (((l.map fun z => (z.1, z.2 * dB b)) ++ (List.range 2).map (prps b l)).map (enZ (dB b)))), .sh (.int z.1), .sh (cF.enc (fr z.2 (dB b))), .no, .no], ?_, by simp⟩, fun y hy => hI y (by simp [hy])⟩
    generalize ((l.map fun z => (z.1, z.2 * dB b)) ++ (List.range 2).map (prps b l)).map (enZ (dB b)) = fl
    unfold enZ lbStep
    by_cases c : z.1 < p
    · rw [if_pos c]
      have sl : ∀ e : E, slotOf e (cF.enc (fr (x + z.2 * (p - z.1)) (dB b))) = .sh (cF.enc (fr (x + z.2 * (p - z.1)) (dB b))) := fun e => slot_tup
      generalize cF.enc (fr (x + z.2 * (p - z.1)) (dB b)) = v1 at t2 sl ⊢
      generalize cF.enc (fr (z.2 * (p - z.1)) (dB b)) = v2 at t1 t2
      generalize cF.enc (fr z.2 (dB b)) = v3 at t1 ⊢
      generalize cF.enc (fr x (dB b)) = v4 at t2 ⊢
      simp [fBody, law_bend_B0, esc, escs, c, t1, t2, sl]
    · rw [if_neg c]
      generalize cF.enc (fr z.2 (dB b)) = v3
      generalize cF.enc (fr x (dB b)) = v4
      simp [fBody, law_bend_B0, esc, escs, c]) ((l.map fun z => (z.1, z.2 * dB b)) ++ (List.range 2).map (prps b l)) 0 (by
      intro z hz
      rcases List.mem_append.mp hz with hz | hz
      · obtain ⟨y, hy, rfl⟩ := List.mem_map.mp hz
        have := hl2 y hy
        simp only
        omega
      · obtain ⟨k, _, rfl⟩ := List.mem_map.mp hz
        unfold prps
        split <;> simp only <;> omega)
  have ef : ((l.map fun z => (z.1, z.2 * dB b)) ++ (List.range 2).map (prps b l)).foldl (lbStep p) 0 = bendX b l p := by
    rw [List.foldl_append, near_fold]
    have e2 : (List.range 2).map (prps b l) = [(b.2.1, -r1S b l), (b.2.2, -s2S b l)] := rfl
    rw [e2]
    unfold bendX
    simp only [List.foldl_cons, List.foldl_nil, lbStep, Int.neg_mul]
    by_cases d1 : b.2.1 < p <;> by_cases d2 : b.2.2 < p <;> simp [d1, d2] <;> omega
  rw [ef] at key
  rw [List.map_append, e0] at key
  have hll : ((l.map fun z => (z.1, z.2 * dB b)).map (enZ (dB b))).length + (((List.range 2).map (prps b l)).map (enZ (dB b))).length ≤ LINE := by
    simp only [List.length_map, List.length_range]
    unfold LINE
    omega
  unfold bendP
  generalize cF.enc (fr (bendX b l p) (dB b)) = v at key ⊢
  generalize (l.map fun z => (z.1, z.2 * dB b)).map (enZ (dB b)) = w1 at c1 key hll
  generalize ((List.range 2).map (prps b l)).map (enZ (dB b)) = w2 at c2' key hll
  generalize (List.range 2).map cNat.enc = w3 at er2 c2'
  generalize l.map cF.enc = w at it c1
  generalize cLd.enc l = y at it c1 c2' key ⊢
  generalize cBm.enc b = x at c2' key ⊢
  unfold b_law_bend
  simp [esc, escs, escS, escF, it, c1, c2', ok2, er2, hll, key]
end PW

set_option maxHeartbeats 4000000
/-! The beams: the worst bend, the most, the places, the props, loads joined, reckoned. -/
namespace PW
open PySem PyProof.Rows L2 PV
def smO : Option (Fr2 × Nat) → Prop
  | none => True
  | some q => PV.small64 q.1.2 = true
theorem bend_sm {b : Bm} {l : Ld} {p : Int} (h : okB b = true) : PV.small64 (sizeP (bendP b l p)).2 = true := by
  have hD := dB_pos h
  exact (dn_fr (a := bendX b l p) hD.1).sm hD.1 (by omega)
theorem wStep_sm {b : Bm} {l : Ld} {s : Option (Fr2 × Nat)} (h : okB b = true) (hs : smO s) (p : Nat) : smO (wStep b l s p) := by
  have e := bend_sm (b := b) (l := l) (p := (p : Int)) h
  unfold wStep
  cases s with
  | none => exact e
  | some q =>
    simp only
    split
    · exact e
    · exact hs
theorem wor_sm {b : Bm} {l : Ld} (h : okB b = true) : smO (worP b l) := by
  have key : ∀ (xs : List Nat) (s : Option (Fr2 × Nat)), smO s → smO (xs.foldl (wStep b l) s) := fun xs => by
    induction xs with
    | nil => exact fun s hs => hs
    | cons x xs ih => exact fun s hs => ih _ (wStep_sm h hs x)
  exact key _ _ trivial
theorem flt_swap_is {f : Nat} (hf : SS f = S_lt) {p q : Fr2} (h : okS p q = true) : SS f [cF.enc p, cF.enc q] = some (.bool (flt p q)) := by
  rw [hf]
  unfold S_lt
  exact spec_of (A2_enc cF cF p q) h
theorem size_enc (f : Fr2) : PyData.tuple [.int (if f.1 < 0 then -f.1 else f.1), .int f.2] = cF.enc (sizeP f) := by
  unfold sizeP
  rw [e_F]
  congr 3
  split <;> omega
theorem r_worst_bend : ∀ ds d, SS id_worst_bend ds = some d → run optM C0 SS G0 n_worst_bend.length b_worst_bend ds = some d := by
  intro ds d h
  obtain ⟨⟨b, l⟩, h1, hp, rfl⟩ := spec_some (show S_wor ds = some d from h)
  obtain rfl := A2_some h1
  have hp : okBL b l = true := hp
  obtain ⟨hb, hl⟩ := okBL_it hp
  have hbb := okB_it hb
  refine run_of ?_
  show exs optM C0 SS G0 b_worst_bend [.sh (cBm.enc b), .sh (cLd.enc l), .no, .no, .no, .no] = some (.rt (wvD (worP b l)))
  have g0 : dIx (cBm.enc b) (.int 0) = some (.int b.1) := rfl
  have ok : okR 0 (b.1 + 1) = true := by unfold okR LINE; exact decide_eq_true (by omega)
  have er : rng 0 (b.1 + 1) = (List.range (b.1.toNat + 1)).map cNat.enc := by
    rw [show b.1 + 1 = ((b.1.toNat + 1 : Nat) : Int) by omega, rng_nat]
  have key := forL_fold (g := fBody C0 SS G0 (.nm 3) worst_bend_B0) (ρ0 := [.sh (cBm.enc b), .sh (cLd.enc l), .sh .none, .no, .no, .no]) cNat.enc (fun s : Option (Fr2 × Nat) => [.sh (cBm.enc b), .sh (cLd.enc l), .sh (wvD s), .no, .no, .no]) (wStep b l) (fun s xs => smO s ∧ ∀ x ∈ xs, x < b.1.toNat + 1) (fun s p xs hI => by
    obtain ⟨hs, hx⟩ := hI
    have hpp := hx p (by simp)
    have e1 := SS_bends_at (p := (p : Int)) hp (by omega)
    have hsm := bend_sm (b := b) (l := l) (p := (p : Int)) hb
    refine ⟨⟨[.sh (cBm.enc b), .sh (cLd.enc l), .sh (wvD (wStep b l s p)), .sh (.int p), .sh (cF.enc (bendP b l p)), .sh (cF.enc (sizeP (bendP b l p)))], ?_, by simp⟩, wStep_sm hb hs p, fun y hy => hx y (by simp [hy])⟩
    unfold wStep
    generalize bendP b l p = f at e1 hsm ⊢
    have es := size_enc f
    have i0 : dIx (cF.enc f) (.int 0) = some (.int f.1) := rfl
    have i1 : dIx (cF.enc f) (.int 1) = some (.int f.2) := rfl
    have sl : ∀ e : E, slotOf e (cF.enc f) = .sh (cF.enc f) := fun e => slot_tup
    have sl2 : ∀ e : E, slotOf e (cF.enc (sizeP f)) = .sh (cF.enc (sizeP f)) := fun e => slot_tup
    have hs2 : ∀ q : Fr2 × Nat, s = some q → SS id_is_less [cF.enc q.1, cF.enc (sizeP f)] = some (.bool (flt q.1 (sizeP f))) := fun q hq => by
      subst hq
      exact SS_is_less (by unfold okS; rw [hsm]; simp only [smO] at hs; rw [hs]; rfl)
    show fBody C0 SS G0 (.nm 3) worst_bend_B0 (.int p) _ = _
    cases s with
    | none =>
      simp only [wvD]
      generalize cF.enc (sizeP f) = v at es sl2 ⊢
      generalize cF.enc f = u at e1 i0 i1 sl ⊢
      generalize f.1 = x1 at *
      generalize f.2 = x2 at *
      generalize cLd.enc l = y at e1 ⊢
      generalize cBm.enc b = x at e1 ⊢
      simp [fBody, worst_bend_B0, esc, escs, e1, i0, i1, es, sl, sl2]
    | some q =>
      have e2 := hs2 q rfl
      have n0 : isN (wvD (some q)) = false := rfl
      have i2 : dIx (wvD (some q)) (.int 0) = some (cF.enc q.1) := rfl
      simp only
      by_cases c : flt q.1 (sizeP f) = true
      · rw [if_pos c]
        rw [c] at e2
        have ew : wvD (some (sizeP f, p)) = .tuple [cF.enc (sizeP f), .int p] := rfl
        rw [ew]
        generalize wvD (some q) = w at n0 i2 ⊢
        generalize cF.enc q.1 = q1 at e2 i2
        generalize cF.enc (sizeP f) = v at es sl2 e2 ⊢
        generalize cF.enc f = u at e1 i0 i1 sl ⊢
        generalize f.1 = x1 at es i0
        generalize f.2 = x2 at es i1
        generalize cLd.enc l = y at e1 ⊢
        generalize cBm.enc b = x at e1 ⊢
        simp [fBody, worst_bend_B0, esc, escs, e1, i0, i1, es, sl, sl2, n0, i2, e2]
      · have c' : flt q.1 (sizeP f) = false := by simpa using c
        rw [if_neg c]
        rw [c'] at e2
        generalize wvD (some q) = w at n0 i2 ⊢
        generalize cF.enc q.1 = q1 at e2 i2
        generalize cF.enc (sizeP f) = v at es sl2 e2 ⊢
        generalize cF.enc f = u at e1 i0 i1 sl ⊢
        generalize f.1 = x1 at es i0
        generalize f.2 = x2 at es i1
        generalize cLd.enc l = y at e1 ⊢
        generalize cBm.enc b = x at e1 ⊢
        simp [fBody, worst_bend_B0, esc, escs, e1, i0, i1, es, sl, sl2, n0, i2, e2]) (List.range (b.1.toNat + 1)) none ⟨trivial, fun x hx => List.mem_range.mp hx⟩
  have key : forL optM (fBody C0 SS G0 (.nm 3) worst_bend_B0) [.sh (cBm.enc b), .sh (cLd.enc l), .sh .none, .no, .no, .no] ((List.range (b.1.toNat + 1)).map cNat.enc) [.sh (cBm.enc b), .sh (cLd.enc l), .sh .none, .no, .no, .no] = some (.nx [.sh (cBm.enc b), .sh (cLd.enc l), .sh (wvD (worP b l)), .no, .no, .no]) := key
  generalize wvD (worP b l) = q at key ⊢
  generalize (List.range (b.1.toNat + 1)).map cNat.enc = w at er key
  generalize cLd.enc l = y at key ⊢
  generalize cBm.enc b = x at g0 key ⊢
  unfold b_worst_bend
  simp [esc, escs, escF, g0, ok, er, key]
theorem r_law_worst : ∀ ds d, SS id_law_worst ds = some d → run optM C0 SS G0 n_law_worst.length b_law_worst ds = some d := by
  intro ds d h
  obtain ⟨⟨b, l⟩, h1, hp, rfl⟩ := spec_some (show S_wor ds = some d from h)
  obtain rfl := A2_some h1
  have hp : okBL b l = true := hp
  obtain ⟨hb, hl⟩ := okBL_it hp
  have hbb := okB_it hb
  refine run_of ?_
  show exs optM C0 SS G0 b_law_worst [.sh (cBm.enc b), .sh (cLd.enc l), .no, .no, .no, .no] = some (.rt (wvD (worP b l)))
  have g0 : dIx (cBm.enc b) (.int 0) = some (.int b.1) := rfl
  have ok : okR 0 (b.1 + 1) = true := by unfold okR LINE; exact decide_eq_true (by omega)
  have er : rng 0 (b.1 + 1) = (List.range (b.1.toNat + 1)).map cNat.enc := by
    rw [show b.1 + 1 = ((b.1.toNat + 1 : Nat) : Int) by omega, rng_nat]
  have key := forL_fold (g := fBody C0 SS G0 (.nm 3) law_worst_B0) (ρ0 := [.sh (cBm.enc b), .sh (cLd.enc l), .sh .none, .no, .no, .no]) cNat.enc (fun s : Option (Fr2 × Nat) => [.sh (cBm.enc b), .sh (cLd.enc l), .sh (wvD s), .no, .no, .no]) (wStep b l) (fun s xs => smO s ∧ ∀ x ∈ xs, x < b.1.toNat + 1) (fun s p xs hI => by
    obtain ⟨hs, hx⟩ := hI
    have hpp := hx p (by simp)
    have e1 := SS_law_bend (p := (p : Int)) hp (by omega)
    have hsm := bend_sm (b := b) (l := l) (p := (p : Int)) hb
    refine ⟨⟨[.sh (cBm.enc b), .sh (cLd.enc l), .sh (wvD (wStep b l s p)), .sh (.int p), .sh (cF.enc (bendP b l p)), .sh (cF.enc (sizeP (bendP b l p)))], ?_, by simp⟩, wStep_sm hb hs p, fun y hy => hx y (by simp [hy])⟩
    unfold wStep
    generalize bendP b l p = f at e1 hsm ⊢
    have es := size_enc f
    have i0 : dIx (cF.enc f) (.int 0) = some (.int f.1) := rfl
    have i1 : dIx (cF.enc f) (.int 1) = some (.int f.2) := rfl
    have sl : ∀ e : E, slotOf e (cF.enc f) = .sh (cF.enc f) := fun e => slot_tup
    have sl2 : ∀ e : E, slotOf e (cF.enc (sizeP f)) = .sh (cF.enc (sizeP f)) := fun e => slot_tup
    have hs2 : ∀ q : Fr2 × Nat, s = some q → SS id_law_below [cF.enc q.1, cF.enc (sizeP f)] = some (.bool (flt q.1 (sizeP f))) := fun q hq => by
      subst hq
      exact SS_law_below (by unfold okS; rw [hsm]; simp only [smO] at hs; rw [hs]; rfl)
    show fBody C0 SS G0 (.nm 3) law_worst_B0 (.int p) _ = _
    cases s with
    | none =>
      simp only [wvD]
      generalize cF.enc (sizeP f) = v at es sl2 ⊢
      generalize cF.enc f = u at e1 i0 i1 sl ⊢
      generalize f.1 = x1 at *
      generalize f.2 = x2 at *
      generalize cLd.enc l = y at e1 ⊢
      generalize cBm.enc b = x at e1 ⊢
      simp [fBody, law_worst_B0, esc, escs, e1, i0, i1, es, sl, sl2]
    | some q =>
      have e2 := hs2 q rfl
      have n0 : isN (wvD (some q)) = false := rfl
      have i2 : dIx (wvD (some q)) (.int 0) = some (cF.enc q.1) := rfl
      have sl3 : ∀ e : E, slotOf e (wvD (some q)) = .sh (wvD (some q)) := fun e => slot_tup
      simp only
      by_cases c : flt q.1 (sizeP f) = true
      · rw [if_pos c]
        rw [c] at e2
        have ew : wvD (some (sizeP f, p)) = .tuple [cF.enc (sizeP f), .int p] := rfl
        rw [ew]
        generalize wvD (some q) = w at n0 i2 sl3 ⊢
        generalize cF.enc q.1 = q1 at e2 i2
        generalize cF.enc (sizeP f) = v at es sl2 e2 ⊢
        generalize cF.enc f = u at e1 i0 i1 sl ⊢
        generalize f.1 = x1 at es i0
        generalize f.2 = x2 at es i1
        generalize cLd.enc l = y at e1 ⊢
        generalize cBm.enc b = x at e1 ⊢
        simp [fBody, law_worst_B0, esc, escs, e1, i0, i1, es, sl, sl2, n0, i2, e2]
      · have c' : flt q.1 (sizeP f) = false := by simpa using c
        rw [if_neg c]
        rw [c'] at e2
        generalize wvD (some q) = w at n0 i2 sl3 ⊢
        generalize cF.enc q.1 = q1 at e2 i2
        generalize cF.enc (sizeP f) = v at es sl2 e2 ⊢
        generalize cF.enc f = u at e1 i0 i1 sl ⊢
        generalize f.1 = x1 at es i0
        generalize f.2 = x2 at es i1
        generalize cLd.enc l = y at e1 ⊢
        generalize cBm.enc b = x at e1 ⊢
        simp [fBody, law_worst_B0, esc, escs, e1, i0, i1, es, sl, sl2, sl3, n0, i2, e2]) (List.range (b.1.toNat + 1)) none ⟨trivial, fun x hx => List.mem_range.mp hx⟩
  have key : forL optM (fBody C0 SS G0 (.nm 3) law_worst_B0) [.sh (cBm.enc b), .sh (cLd.enc l), .sh .none, .no, .no, .no] ((List.range (b.1.toNat + 1)).map cNat.enc) [.sh (cBm.enc b), .sh (cLd.enc l), .sh .none, .no, .no, .no] = some (.nx [.sh (cBm.enc b), .sh (cLd.enc l), .sh (wvD (worP b l)), .no, .no, .no]) := key
  generalize wvD (worP b l) = q at key ⊢
  generalize (List.range (b.1.toNat + 1)).map cNat.enc = w at er key
  generalize cLd.enc l = y at key ⊢
  generalize cBm.enc b = x at g0 key ⊢
  unfold b_law_worst
  simp [esc, escs, escF, g0, ok, er, key]
theorem SS_wor_ {f : Nat} (hf : SS f = S_wor) {b : Bm} {l : Ld} (h : okBL b l = true) : SS f [cBm.enc b, cLd.enc l] = some (wvD (worP b l)) := by
  rw [hf]
  unfold S_wor
  exact spec_of (p := fun z : Bm × Ld => okBL z.1 z.2) (f := fun z : Bm × Ld => wvD (worP z.1 z.2)) (t := (b, l)) (A2_enc cBm cLd b l) h
theorem SS_worst_bend {b : Bm} {l : Ld} (h : okBL b l = true) : SS id_worst_bend [cBm.enc b, cLd.enc l] = some (wvD (worP b l)) := SS_wor_ (f := 28) rfl h
theorem SS_law_worst {b : Bm} {l : Ld} (h : okBL b l = true) : SS id_law_worst [cBm.enc b, cLd.enc l] = some (wvD (worP b l)) := SS_wor_ (f := 33) rfl h
/-! a load more -/
theorem okL_add {l : Ld} {z : Int × Int} (h : okL l = true) (hl : l.length ≤ 5) (hz : 0 ≤ z.1 ∧ z.1 ≤ 9 ∧ 0 ≤ z.2 ∧ z.2 ≤ 1000) : okL (l ++ [z]) = true := by
  obtain ⟨h1, h2⟩ := okL_it h
  refine okL_of (by rw [List.length_append]; simp; omega) fun y hy => ?_
  rcases List.mem_append.mp hy with hy | hy
  · exact h2 y hy
  · rw [List.mem_singleton.mp hy]
    exact hz
theorem add_ld {l : Ld} {x y : Int} (hl : l.length ≤ 6) : dBin .add (cLd.enc l) (.tuple [.tuple [.int x, .int y]]) = some (cLd.enc (l ++ [(x, y)])) := by
  rw [e_Ld, b_addt, if_pos (by unfold LINE; simp; omega), e_Ld, List.map_append]
  rfl
theorem r_safe_places : ∀ ds d, SS id_safe_places ds = some d → run optM C0 SS G0 n_safe_places.length b_safe_places ds = some d := by
  intro ds d h
  obtain ⟨⟨b, l, w⟩, h1, hp, rfl⟩ := spec_some (show S_safe ds = some d from h)
  obtain rfl := A3_some h1
  simp only [Bool.and_eq_true, decide_eq_true_eq] at hp
  obtain ⟨⟨hb, hl, hl5⟩, hw⟩ := hp
  have hb : okB b = true := hb
  have hl : okL l = true := hl
  have hl5 : l.length ≤ 5 := hl5
  have hw : 0 ≤ w ∧ w ≤ 1000 := hw
  have hbb := okB_it hb
  refine run_of ?_
  show exs optM C0 SS G0 b_safe_places [.sh (cBm.enc b), .sh (cLd.enc l), .sh (.int w), .no] = some (.rt ((cT cNat).enc (safeP b l w)))
  have g0 : dIx (cBm.enc b) (.int 0) = some (.int b.1) := rfl
  have ok : okR 0 (b.1 + 1) = true := by unfold okR LINE; exact decide_eq_true (by omega)
  have er : rng 0 (b.1 + 1) = (List.range (b.1.toNat + 1)).map cNat.enc := by
    rw [show b.1 + 1 = ((b.1.toNat + 1 : Nat) : Int) by omega, rng_nat]
  have cc : compL optM (oStep C0 SS G0 (.nm 3) (.call id_lies (.cons (.var 0) (.cons (.bin .add (.var 1) (.tup (.cons (.tup (.cons (.var 3) (.cons (.var 2) .nil))) .nil))) .nil))) (.var 3) [.sh (cBm.enc b), .sh (cLd.enc l), .sh (.int w), .no]) ((List.range (b.1.toNat + 1)).map cNat.enc) = some ((safeP b l w).map cNat.enc) := by
    unfold safeP
    refine compL_fil (p := fun p : Nat => liesB b (l ++ [((p : Int), w)])) fun p hp => ?_
    have hp := List.mem_range.mp hp
    have a1 := add_ld (l := l) (x := (p : Int)) (y := w) (by omega)
    have e1 := SS_lies (b := b) (l := l ++ [((p : Int), w)]) (okBL_of hb (okL_add hl hl5 (by simp only; omega)))
    show oStep _ _ _ _ _ _ _ (.int p) = _
    generalize liesB b (l ++ [((p : Int), w)]) = q at e1 ⊢
    generalize cLd.enc (l ++ [((p : Int), w)]) = v at a1 e1
    generalize cLd.enc l = y at a1 ⊢
    generalize cBm.enc b = x at e1 ⊢
    cases q <;> simp [oStep, a1, e1]
  have et : dBi .tuple (.list ((safeP b l w).map cNat.enc)) = some ((cT cNat).enc (safeP b l w)) := rfl
  generalize (cT cNat).enc (safeP b l w) = v at et ⊢
  generalize (safeP b l w).map cNat.enc = u at cc et
  generalize (List.range (b.1.toNat + 1)).map cNat.enc = r at er cc
  generalize cLd.enc l = y at cc ⊢
  generalize cBm.enc b = x at g0 cc ⊢
  unfold b_safe_places
  simp [esc, escs, escS, g0, ok, er, cc, et]
theorem SS_safe_places {b : Bm} {l : Ld} {w : Int} (hb : okB b = true) (hl : okL l = true) (hl5 : l.length ≤ 5) (hw : 0 ≤ w ∧ w ≤ 1000) : SS id_safe_places [cBm.enc b, cLd.enc l, .int w] = some ((cT cNat).enc (safeP b l w)) := by
  show S_safe [cBm.enc b, cLd.enc l, cInt.enc w] = _
  unfold S_safe
  have hh : ((okB b && (okL l && decide (l.length ≤ 5))) && decide (0 ≤ w ∧ w ≤ 1000)) = true := by rw [hb, hl, decide_eq_true hl5, decide_eq_true hw]; rfl
  exact spec_of (p := fun z : Bm × Ld × Int => (okB z.1 && (okL z.2.1 && decide (z.2.1.length ≤ 5))) && decide (0 ≤ z.2.2 ∧ z.2.2 ≤ 1000)) (f := fun z : Bm × Ld × Int => (cT cNat).enc (safeP z.1 z.2.1 z.2.2)) (t := (b, l, w)) (A3_enc cBm cLd cInt b l w) hh
theorem find_range {p : Nat → Bool} {n N : Nat} (h : (List.range n).find? p = some N) : N < n ∧ p N = true ∧ ∀ k, k < N → p k = false := by
  rw [List.find?_eq_some_iff_append] at h
  obtain ⟨h1, as, bs, e, h2⟩ := h
  have hl : N = as.length := by
    have := congrArg (fun l => l[as.length]?) e
    simp only [List.getElem?_append_right (Nat.le_refl _), Nat.sub_self, List.getElem?_cons_zero] at this
    obtain ⟨_, h3⟩ := List.getElem?_eq_some_iff.mp this
    simpa using h3.symm
  have hn : as.length < n := by
    have := congrArg List.length e
    simp at this
    omega
  refine ⟨by omega, h1, fun k hk => ?_⟩
  have hk2 : k < as.length := by omega
  have := congrArg (fun l => l[k]?) e
  simp only [List.getElem?_append_left hk2] at this
  rw [List.getElem?_eq_getElem hk2, List.getElem?_range (by omega)] at this
  have hm : k ∈ as := by
    have e2 : k = as[k] := Option.some.inj this
    exact e2 ▸ List.getElem_mem hk2
  simpa using h2 k hm
theorem r_most_at : ∀ ds d, SS id_most_at ds = some d → run optM C0 SS G0 n_most_at.length b_most_at ds = some d := by
  intro ds d h
  obtain ⟨⟨b, l, p⟩, h1, hp, rfl⟩ := spec_some (show S_most ds = some d from h)
  obtain rfl := A3_some h1
  simp only [Bool.and_eq_true, decide_eq_true_eq] at hp
  obtain ⟨⟨hb, hl, hl5⟩, hpp, hm⟩ := hp
  have hb : okB b = true := hb
  have hl : okL l = true := hl
  have hl5 : l.length ≤ 5 := hl5
  have hpp : 0 ≤ p ∧ p ≤ 9 := hpp
  have hm : (earlyB b l p || (mostN b l p).isSome) = true := hm
  have hbb := okB_it hb
  refine run_of ?_
  show exs optM C0 SS G0 b_most_at [.sh (cBm.enc b), .sh (cLd.enc l), .sh (.int p), .no, .no, .no] = some (.rt (mostD b l p))
  have g1 : dIx (cBm.enc b) (.int 1) = some (.tuple [.int b.2.1, .int b.2.2]) := rfl
  have e0 := SS_lies (b := b) (l := l) (okBL_of hb hl)
  have ee : earlyB b l p = ((decide (b.2.1 ≤ p) && decide (p ≤ b.2.2)) || !liesB b l) := rfl
  by_cases c : earlyB b l p = true
  · have ed : mostD b l p = .none := by unfold mostD; rw [if_pos c]
    rw [ed]
    rw [ee] at c
    generalize liesB b l = q at e0 c
    generalize cLd.enc l = y at e0 ⊢
    generalize cBm.enc b = x at g1 e0 ⊢
    unfold b_most_at
    by_cases d1 : b.2.1 ≤ p
    · by_cases d2 : p ≤ b.2.2
      · simp [esc, escs, g1, d1, d2]
      · have hq : q = false := by simpa [d1, d2] using c
        subst hq
        simp [esc, escs, g1, d1, d2, e0]
    · have hq : q = false := by simpa [d1] using c
      subst hq
      simp [esc, escs, g1, d1, e0]
  · have c' : earlyB b l p = false := by simpa using c
    rw [c', Bool.false_or] at hm
    obtain ⟨N, hN⟩ := Option.isSome_iff_exists.mp hm
    have ed : mostD b l p = .int N := by unfold mostD; rw [if_neg c, hN]
    rw [ed]
    obtain ⟨f1, f2, f3⟩ := find_range (show (List.range 400).find? (fun n : Nat => !liesB b (l ++ [(p, (n : Int) + 1)])) = some N from hN)
    have lie : ∀ n : Nat, n ≤ N → SS id_lies [cBm.enc b, cLd.enc (l ++ [(p, (n : Int) + 1)])] = some (.bool (decide (n < N))) := fun n hn => by
      have e := SS_lies (b := b) (l := l ++ [(p, (n : Int) + 1)]) (okBL_of hb (okL_add hl hl5 (by simp only; omega)))
      rcases Nat.lt_or_eq_of_le hn with h | h
      · have := f3 n h
        rw [e]
        simp at this
        simp [this, h]
      · subst h
        rw [e]
        simp at f2
        simp [f2]
    have key := whO_go (step := wBody C0 SS G0 (.call id_lies (.cons (.var 0) (.cons (.bin .add (.var 1) (.tup (.cons (.tup (.cons (.var 2) (.cons (.bin .add (.var 5) (.int 1)) .nil))) .nil))) .nil))) most_at_B0 [.sh (cBm.enc b), .sh (cLd.enc l), .sh (.int p), .sh (.int b.2.1), .sh (.int b.2.2), .sh (.int 0)]) (fun n : Nat => [.sh (cBm.enc b), .sh (cLd.enc l), .sh (.int p), .sh (.int b.2.1), .sh (.int b.2.2), .sh (.int n)]) (fun n => N - n) (fun n => n + 1) (fun n => decide (n < N)) (fun n => n ≤ N) (fun n hI => by
      have a1 := add_ld (l := l) (x := p) (y := (n : Int) + 1) (by omega)
      have e1 := lie n hI
      generalize cLd.enc (l ++ [(p, (n : Int) + 1)]) = v at a1 e1
      generalize cLd.enc l = y at a1 ⊢
      generalize cBm.enc b = x at e1 ⊢
      by_cases hn : n < N
      · rw [decide_eq_true hn] at e1
        refine ⟨fun _ => ⟨?_, hn, by omega⟩, fun z => by simp [hn] at z⟩
        rw [wBody_go (ρ' := [.sh x, .sh y, .sh (.int p), .sh (.int b.2.1), .sh (.int b.2.2), .sh (.int ((n + 1 : Nat) : Int))]) (by simp [a1, e1]) (by simp [most_at_B0, esc, escs])]
        simp [esc, escs]
      · rw [decide_eq_false hn] at e1
        exact ⟨fun z => by simp [hn] at z, fun _ => wBody_end (by simp [a1, e1])⟩) _ 0 (Nat.le_refl _) (Nat.zero_le _)
    obtain ⟨n, k1, k2, k3⟩ := key
    have hn : n = N := by
      have : ¬ n < N := by simpa using k3
      omega
    subst hn
    rw [ee] at c'
    have hq : liesB b l = true := by
      cases q : liesB b l with
      | true => rfl
      | false => rw [q] at c'; simp at c'
    rw [hq] at e0 c'
    have k1 : whO (wBody C0 SS G0 (.call id_lies (.cons (.var 0) (.cons (.bin .add (.var 1) (.tup (.cons (.tup (.cons (.var 2) (.cons (.bin .add (.var 5) (.int 1)) .nil))) .nil))) .nil))) most_at_B0 [.sh (cBm.enc b), .sh (cLd.enc l), .sh (.int p), .sh (.int b.2.1), .sh (.int b.2.2), .sh (.int 0)]) [.sh (cBm.enc b), .sh (cLd.enc l), .sh (.int p), .sh (.int b.2.1), .sh (.int b.2.2), .sh (.int 0)] = some (.nx [.sh (cBm.enc b), .sh (cLd.enc l), .sh (.int p), .sh (.int b.2.1), .sh (.int b.2.2), .sh (.int n)]) := k1
    generalize cLd.enc l = y at e0 k1 ⊢
    generalize cBm.enc b = x at g1 e0 k1 ⊢
    unfold b_most_at
    by_cases d1 : b.2.1 ≤ p
    · have d2 : ¬ p ≤ b.2.2 := by simpa [d1] using c'
      simp [esc, escs, g1, d1, d2, e0, k1]
    · simp [esc, escs, g1, d1, e0, k1]
theorem SS_most_at {b : Bm} {l : Ld} {p : Int} (hb : okB b = true) (hl : okL l = true) (hl5 : l.length ≤ 5) (hp : 0 ≤ p ∧ p ≤ 9) (hm : (earlyB b l p || (mostN b l p).isSome) = true) : SS id_most_at [cBm.enc b, cLd.enc l, .int p] = some (mostD b l p) := by
  show S_most [cBm.enc b, cLd.enc l, cInt.enc p] = _
  unfold S_most
  have hh : ((okB b && (okL l && decide (l.length ≤ 5))) && (decide (0 ≤ p ∧ p ≤ 9) && (earlyB b l p || (mostN b l p).isSome))) = true := by rw [hb, hl, decide_eq_true hl5, decide_eq_true hp, hm]; rfl
  exact spec_of (p := fun z : Bm × Ld × Int => (okB z.1 && (okL z.2.1 && decide (z.2.1.length ≤ 5))) && (decide (0 ≤ z.2.2 ∧ z.2.2 ≤ 9) && (earlyB z.1 z.2.1 z.2.2 || (mostN z.1 z.2.1 z.2.2).isSome))) (f := fun z : Bm × Ld × Int => mostD z.1 z.2.1 z.2.2) (t := (b, l, p)) (A3_enc cBm cLd cInt b l p) hh
end PW

set_option maxHeartbeats 4000000
/-! The beams: the best props, loads joined, the middle, turned, reckoned. -/
namespace PW
open PySem PyProof.Rows L2 PV
def smP : Option (Fr2 × Int × Int) → Prop
  | none => True
  | some q => PV.small64 q.1.2 = true
theorem e_wv {z : Fr2 × Nat} : dIx (wvD (some z)) (.int 0) = some (cF.enc z.1) := rfl
theorem wor_some (b : Bm) (l : Ld) : ∃ z, worP b l = some z := by
  unfold worP
  have key : ∀ (xs : List Nat) (s : Option (Fr2 × Nat)), s.isSome = true → (xs.foldl (wStep b l) s).isSome = true := fun xs => by
    induction xs with
    | nil => exact fun s hs => hs
    | cons x xs ih =>
      intro s hs
      refine ih _ ?_
      unfold wStep
      cases s with
      | none => rfl
      | some q => simp only; split <;> rfl
  rw [List.range_succ_eq_map, List.foldl_cons]
  exact Option.isSome_iff_exists.mp (key _ _ rfl)
theorem bpS_sm {long : Int} {l : Ld} {s : Option (Fr2 × Int × Int)} {a c : Int} (h : okB (long, a, c) = true) (hs : smP s) : smP (bpS long l s a c) := by
  unfold bpS
  split
  · have hw := wor_sm (b := (long, a, c)) (l := l) h
    obtain ⟨z, hz⟩ := wor_some (long, a, c) l
    rw [hz] at hw ⊢
    simp only
    cases s with
    | none => exact hw
    | some q =>
      simp only
      split
      · exact hw
      · exact hs
  · exact hs
theorem okB_of {long a c : Int} (h : 1 ≤ long ∧ long ≤ 9) (ha : 0 ≤ a) (hc : a < c) (hl : c ≤ long) : okB (long, a, c) = true := by
  unfold okB
  exact decide_eq_true ⟨h.1, h.2, ha, hc, hl⟩
theorem r_best_props : ∀ ds d, SS id_best_props ds = some d → run optM C0 SS G0 n_best_props.length b_best_props ds = some d := by
  intro ds d h
  obtain ⟨⟨long, l⟩, h1, hp, rfl⟩ := spec_some (show S_bp ds = some d from h)
  obtain rfl := A2_some h1
  simp only [Bool.and_eq_true, decide_eq_true_eq] at hp
  obtain ⟨hL, hl⟩ := hp
  have hL : 1 ≤ long ∧ long ≤ 9 := hL
  have hl : okL l = true := hl
  refine run_of ?_
  show exs optM C0 SS G0 b_best_props [.sh (.int long), .sh (cLd.enc l), .no, .no, .no, .no, .no] = some (.rt (bpD (bpP long l)))
  have turn : ∀ (s : Option (Fr2 × Int × Int)) (a c : Int), smP s → 0 ≤ a → a < c → c ≤ long → ∃ ρ', fBody C0 SS G0 (.nm 4) best_props_B1 (.int c) [.sh (.int long), .sh (cLd.enc l), .sh (bpD s), .sh (.int a), .no, .no, .no] = some (.nx ρ') ∧ msk [.sh (.int long), .sh (cLd.enc l), .sh .none, .sh (.int a), .no, .no, .no] ρ' = [.sh (.int long), .sh (cLd.enc l), .sh (bpD (bpS long l s a c)), .sh (.int a), .no, .no, .no] := fun s a c hs ha hc hcl => by
    have hb := okB_of (long := long) (a := a) (c := c) hL ha hc hcl
    have e1 := SS_lies (b := (long, a, c)) (l := l) (okBL_of hb hl)
    have e2 := SS_worst_bend (b := (long, a, c)) (l := l) (okBL_of hb hl)
    have eb : cBm.enc (long, a, c) = .tuple [.int long, .tuple [.int a, .int c]] := rfl
    rw [eb] at e1 e2
    have hw := wor_sm (b := (long, a, c)) (l := l) hb
    obtain ⟨z, hz⟩ := wor_some (long, a, c) l
    rw [hz] at e2 hw
    have hw : PV.small64 z.1.2 = true := hw
    unfold bpS
    by_cases c1 : liesB (long, a, c) l = true
    · rw [if_pos c1, hz]
      rw [c1] at e1
      have i0 := e_wv (z := z)
      have sl : ∀ e : E, slotOf e (cF.enc z.1) = .sh (cF.enc z.1) := fun e => slot_tup
      simp only
      cases s with
      | none =>
        simp only [bpD]
        rw [e_F (a, c)]
        generalize wvD (some z) = w at e2 i0
        generalize cF.enc z.1 = u at i0 sl ⊢
        generalize cLd.enc l = y at e1 e2 ⊢
        refine ⟨[.sh (.int long), .sh y, .sh (.tuple [u, .tuple [.int a, .int c]]), .sh (.int a), .sh (.int c), .sh (.tuple [.int long, .tuple [.int a, .int c]]), .sh u], ?_, by simp⟩
        simp [fBody, best_props_B1, esc, escs, e1, e2, i0, sl]
      | some q =>
        have hs : PV.small64 q.1.2 = true := hs
        have e3 := SS_is_less (p := z.1) (q := q.1) (by unfold okS; rw [hw, hs]; rfl)
        have i1 : dIx (bpD (some q)) (.int 0) = some (cF.enc q.1) := rfl
        have n0 : isN (bpD (some q)) = false := rfl
        simp only
        by_cases c2 : flt z.1 q.1 = true
        · rw [if_pos c2]
          rw [c2] at e3
          have ew : bpD (some (z.1, a, c)) = .tuple [cF.enc z.1, .tuple [.int a, .int c]] := rfl
          rw [ew]
          generalize bpD (some q) = w2 at i1 n0 ⊢
          generalize cF.enc q.1 = u2 at e3 i1
          generalize wvD (some z) = w at e2 i0
          generalize cF.enc z.1 = u at e3 i0 sl ⊢
          generalize cLd.enc l = y at e1 e2 ⊢
          refine ⟨[.sh (.int long), .sh y, .sh (.tuple [u, .tuple [.int a, .int c]]), .sh (.int a), .sh (.int c), .sh (.tuple [.int long, .tuple [.int a, .int c]]), .sh u], ?_, by simp⟩
          simp [fBody, best_props_B1, esc, escs, e1, e2, i0, sl, i1, n0, e3]
        · have c2' : flt z.1 q.1 = false := by simpa using c2
          rw [if_neg c2]
          rw [c2'] at e3
          generalize bpD (some q) = w2 at i1 n0 ⊢
          generalize cF.enc q.1 = u2 at e3 i1
          generalize wvD (some z) = w at e2 i0
          generalize cF.enc z.1 = u at e3 i0 sl ⊢
          generalize cLd.enc l = y at e1 e2 ⊢
          refine ⟨[.sh (.int long), .sh y, .sh w2, .sh (.int a), .sh (.int c), .sh (.tuple [.int long, .tuple [.int a, .int c]]), .sh u], ?_, by simp⟩
          simp [fBody, best_props_B1, esc, escs, e1, e2, i0, sl, i1, n0, e3]
    · have c1' : liesB (long, a, c) l = false := by simpa using c1
      rw [if_neg c1]
      rw [c1'] at e1
      generalize bpD s = w2
      generalize cLd.enc l = y at e1 ⊢
      refine ⟨[.sh (.int long), .sh y, .sh w2, .sh (.int a), .sh (.int c), .sh (.tuple [.int long, .tuple [.int a, .int c]]), .no], ?_, by simp⟩
      simp [fBody, best_props_B1, esc, escs, e1]
  have inner : ∀ (s : Option (Fr2 × Int × Int)) (a : Nat), smP s → a ≤ long.toNat → forL optM (fBody C0 SS G0 (.nm 4) best_props_B1) [.sh (.int long), .sh (cLd.enc l), .sh (bpD s), .sh (.int a), .no, .no, .no] ((List.range (long.toNat - a)).map fun (k : Nat) => PyData.int ((a : Int) + 1 + k)) [.sh (.int long), .sh (cLd.enc l), .sh (bpD s), .sh (.int a), .no, .no, .no] = some (.nx [.sh (.int long), .sh (cLd.enc l), .sh (bpD (bpR long l s a)), .sh (.int a), .no, .no, .no]) ∧ smP (bpR long l s a) := fun s a hs ha => by
    have hsm : ∀ (xs : List Nat) (s : Option (Fr2 × Int × Int)), smP s → (∀ k ∈ xs, k < long.toNat - a) → smP (xs.foldl (fun s (k : Nat) => bpS long l s a ((a : Int) + 1 + k)) s) := fun xs => by
      induction xs with
      | nil => exact fun s hs _ => hs
      | cons x xs ih =>
        intro s hs hx
        have := hx x (by simp)
        exact ih _ (bpS_sm (okB_of hL (by omega) (by omega) (by omega)) hs) fun k hk => hx k (by simp [hk])
    refine ⟨?_, hsm _ _ hs fun k hk => List.mem_range.mp hk⟩
    refine forL_fold (fun (k : Nat) => PyData.int ((a : Int) + 1 + k)) (fun s : Option (Fr2 × Int × Int) => [.sh (.int long), .sh (cLd.enc l), .sh (bpD s), .sh (.int a), .no, .no, .no]) (fun s (k : Nat) => bpS long l s a ((a : Int) + 1 + k)) (fun s xs => smP s ∧ ∀ k ∈ xs, k < long.toNat - a) (fun s k xs hI => ?_) (List.range (long.toNat - a)) s ⟨hs, fun k hk => List.mem_range.mp hk⟩
    obtain ⟨hs, hx⟩ := hI
    have hk := hx k (by simp)
    obtain ⟨ρ', t1, t2⟩ := turn s a ((a : Int) + 1 + k) hs (by omega) (by omega) (by omega)
    refine ⟨⟨ρ', t1, ?_⟩, bpS_sm (okB_of hL (by omega) (by omega) (by omega)) hs, fun k hk => hx k (by simp [hk])⟩
    rw [← t2]
    rcases ρ' with _ | ⟨x0, _ | ⟨x1, _ | ⟨x2, ρ'⟩⟩⟩ <;> simp
  have key := forL_fold (g := fBody C0 SS G0 (.nm 3) best_props_B0) (ρ0 := [.sh (.int long), .sh (cLd.enc l), .sh .none, .no, .no, .no, .no]) cNat.enc (fun s : Option (Fr2 × Int × Int) => [.sh (.int long), .sh (cLd.enc l), .sh (bpD s), .no, .no, .no, .no]) (bpR long l) (fun s xs => smP s ∧ ∀ a ∈ xs, a ≤ long.toNat) (fun s a xs hI => by
    obtain ⟨hs, hx⟩ := hI
    have ha := hx a (by simp)
    obtain ⟨i1, i2⟩ := inner s a hs ha
    have ok : okR ((a : Int) + 1) (long + 1) = true := by unfold okR LINE; exact decide_eq_true (by omega)
    have er : rng ((a : Int) + 1) (long + 1) = (List.range (long.toNat - a)).map fun (k : Nat) => PyData.int ((a : Int) + 1 + k) := by
      rw [rng_map, show (long + 1 - ((a : Int) + 1)).toNat = long.toNat - a by omega]
    refine ⟨⟨[.sh (.int long), .sh (cLd.enc l), .sh (bpD (bpR long l s a)), .sh (.int a), .no, .no, .no], ?_, by simp⟩, i2, fun y hy => hx y (by simp [hy])⟩
    generalize bpD (bpR long l s a) = q at i1 ⊢
    generalize bpD s = q0 at i1 ⊢
    generalize ((List.range (long.toNat - a)).map fun (k : Nat) => PyData.int ((a : Int) + 1 + k)) = w at er i1
    generalize cLd.enc l = y at i1 ⊢
    simp [fBody, best_props_B0, esc, escs, escF, ok, er, i1]) (List.range (long.toNat + 1)) none ⟨trivial, fun a ha => by have := List.mem_range.mp ha; omega⟩
  have key : forL optM (fBody C0 SS G0 (.nm 3) best_props_B0) [.sh (.int long), .sh (cLd.enc l), .sh .none, .no, .no, .no, .no] ((List.range (long.toNat + 1)).map cNat.enc) [.sh (.int long), .sh (cLd.enc l), .sh .none, .no, .no, .no, .no] = some (.nx [.sh (.int long), .sh (cLd.enc l), .sh (bpD (bpP long l)), .no, .no, .no, .no]) := key
  have ok : okR 0 (long + 1) = true := by unfold okR LINE; exact decide_eq_true (by omega)
  have er : rng 0 (long + 1) = (List.range (long.toNat + 1)).map cNat.enc := by
    rw [show long + 1 = ((long.toNat + 1 : Nat) : Int) by omega, rng_nat]
  generalize bpD (bpP long l) = q at key ⊢
  generalize (List.range (long.toNat + 1)).map cNat.enc = w at er key
  generalize cLd.enc l = y at key ⊢
  unfold b_best_props
  simp [esc, escs, escF, ok, er, key]
theorem SS_best_props {long : Int} {l : Ld} (hL : 1 ≤ long ∧ long ≤ 9) (hl : okL l = true) : SS id_best_props [.int long, cLd.enc l] = some (bpD (bpP long l)) := by
  show S_bp [cInt.enc long, cLd.enc l] = _
  unfold S_bp
  have hh : (decide (1 ≤ long ∧ long ≤ 9) && okL l) = true := by rw [hl, decide_eq_true hL]; rfl
  exact spec_of (p := fun z : Int × Ld => decide (1 ≤ z.1 ∧ z.1 ≤ 9) && okL z.2) (f := fun z : Int × Ld => bpD (bpP z.1 z.2)) (t := (long, l)) (A2_enc cInt cLd long l) hh
/-! loads -/
@[simp] theorem fr_sset {a : E} : E.fresh (.bi .sset a) = true := rfl
theorem uniq_len : ∀ ns : List Int, (uniqS ns).length ≤ ns.length := fun ns => by
  have hi : ∀ (x : Int) (l : List Int), (insU x l).length ≤ l.length + 1 := fun x l => by
    induction l with
    | nil => simp [insU]
    | cons y l ih =>
      unfold insU
      split
      · simp
      · split
        · simp
        · simp only [List.length_cons]; omega
  unfold uniqS
  induction ns with
  | nil => simp
  | cons x ns ih =>
    have := hi x (ns.foldr insU [])
    simp only [List.foldr_cons, List.length_cons]
    omega
theorem i_sset {r : List Int} (h : r.length ≤ 60) : dBi .sset (.list (r.map cInt.enc)) = some (.list ((uniqS r).map cInt.enc)) := by
  have h2 := uniq_len r
  show ((items (.list (r.map PyData.int))).bind fun xs => (ints? xs).bind fun ns => if ns.length ≤ 1000 ∧ (uniqS ns).length < 64 then some (PyData.list ((uniqS ns).map .int)) else none) = _
  have h3 : r.length ≤ 1000 ∧ (uniqS r).length < 64 := by omega
  simp [h3]
def atSum (l : Ld) (p : Int) : Int := ((l.filter fun z => decide (z.1 = p)).map fun z => z.2).sum
theorem join_is (l : Ld) : joinP l = (uniqS (l.map fun z => z.1)).map fun p => (p, atSum l p) := rfl
theorem r_joined_loads : ∀ ds d, SS id_joined_loads ds = some d → run optM C0 SS G0 n_joined_loads.length b_joined_loads ds = some d := by
  intro ds d h
  obtain ⟨l, h1, hp, rfl⟩ := spec_some (show S_join ds = some d from h)
  obtain rfl := A1_some h1
  obtain ⟨hl1, hl2⟩ := okL_it hp
  refine run_of ?_
  have it : items (cLd.enc l) = some (l.map cF.enc) := rfl
  have c1 : ∀ s1 s4 s5 : PV.Slot, compL optM (oStep C0 SS G0 (.tp (.cons (.nm 2) (.cons (.nm 3) .nil))) .yes (.var 2) [.sh (cLd.enc l), s1, .no, .no, s4, s5]) (l.map cF.enc) = some ((l.map fun z => z.1).map cInt.enc) := fun s1 s4 s5 => by
    rw [List.map_map]
    refine compL_all fun z _ => ?_
    rw [e_F]
    simp [oStep]
  have e1 := i_sset (r := l.map fun z => z.1) (by rw [List.length_map]; omega)
  have c2' : ∀ s1 : PV.Slot, compL optM (oStep C0 SS G0 (.nm 2) .yes (.tup (.cons (.var 2) (.cons (.bi .sum (.comp [4, 5] (.tp (.cons (.nm 4) (.cons (.nm 5) .nil))) (.val (.var 0)) (.cmp .eq (.var 4) (.var 2)) (.var 5))) .nil))) [.sh (cLd.enc l), s1, .no, .no, .no, .no]) ((uniqS (l.map fun z => z.1)).map cInt.enc) = some ((joinP l).map cF.enc) := fun s1 => by
    rw [join_is, List.map_map]
    refine compL_all fun p _ => ?_
    have ci : compL optM (oStep C0 SS G0 (.tp (.cons (.nm 4) (.cons (.nm 5) .nil))) (.cmp .eq (.var 4) (.var 2)) (.var 5) [.sh (cLd.enc l), s1, .sh (.int p), .no, .no, .no]) (l.map cF.enc) = some ((l.filter fun z => decide (z.1 = p)).map fun z => .int z.2) := by
      refine compL_fil (p := fun z : Int × Int => decide (z.1 = p)) fun z _ => ?_
      rw [e_F]
      by_cases c : z.1 = p <;> simp [oStep, c]
    have es : dBi .sum (.list ((l.filter fun z => decide (z.1 = p)).map fun z => .int z.2)) = some (.int (atSum l p)) := i_sumf
    show oStep _ _ _ _ _ _ _ (.int p) = some (some (.tuple [.int p, .int (atSum l p)]))
    generalize ((l.filter fun z => decide (z.1 = p)).map fun z => PyData.int z.2) = w at ci es
    generalize l.map cF.enc = v at it ci
    generalize cLd.enc l = y at it ci ⊢
    simp [oStep, it, ci, es]
  have et : dBi .tuple (.list ((joinP l).map cF.enc)) = some (cLd.enc (joinP l)) := rfl
  show _ = some (Fl.rt (cLd.enc (joinP l)))
  generalize cLd.enc (joinP l) = v at et ⊢
  generalize (joinP l).map cF.enc = u at c2' et
  generalize (uniqS (l.map fun z => z.1)).map cInt.enc = w2 at e1 c2'
  generalize (l.map fun z => z.1).map cInt.enc = w1 at c1 e1
  generalize l.map cF.enc = w at it c1
  generalize cLd.enc l = y at it c1 c2' ⊢
  unfold b_joined_loads
  simp [esc, escs, escS, it, c1, e1, c2', et]
theorem SS_joined_loads {l : Ld} (h : okL l = true) : SS id_joined_loads [cLd.enc l] = some (cLd.enc (joinP l)) := by
  show S_join _ = _
  unfold S_join
  exact spec_of (A1_enc cLd l) h
theorem r_middle_of_loads : ∀ ds d, SS id_middle_of_loads ds = some d → run optM C0 SS G0 n_middle_of_loads.length b_middle_of_loads ds = some d := by
  intro ds d h
  obtain ⟨l, h1, hp, rfl⟩ := spec_some (show S_mid ds = some d from h)
  obtain rfl := A1_some h1
  obtain ⟨hl1, hl2⟩ := okL_it hp
  refine run_of ?_
  have it : items (cLd.enc l) = some (l.map cF.enc) := rfl
  have c1 : ∀ s1 s4 : PV.Slot, compL optM (oStep C0 SS G0 (.tp (.cons (.nm 2) (.cons (.nm 3) .nil))) .yes (.var 3) [.sh (cLd.enc l), s1, .no, .no, s4]) (l.map cF.enc) = some (l.map fun z => .int z.2) := fun s1 s4 => by
    refine compL_all fun z _ => ?_
    rw [e_F]
    simp [oStep]
  have c2' : ∀ s1 s2 : PV.Slot, compL optM (oStep C0 SS G0 (.tp (.cons (.nm 4) (.cons (.nm 3) .nil))) .yes (.bin .mul (.var 4) (.var 3)) [.sh (cLd.enc l), s1, s2, .no, .no]) (l.map cF.enc) = some (l.map fun z => .int (z.1 * z.2)) := fun s1 s2 => by
    refine compL_all fun z hz => ?_
    have s := sm_w (hl2 z hz).2.2
    rw [e_F]
    simp [oStep, s]
  have e1 : dBi .sum (.list (l.map fun z => .int z.2)) = some (.int (wS l)) := i_sumf
  have e2 : dBi .sum (.list (l.map fun z => .int (z.1 * z.2))) = some (.int (tS l)) := i_sumf
  have hw : wS l ≤ 6000 := by
    have key : ∀ m : Ld, (∀ z ∈ m, z.2 ≤ 1000) → wS m ≤ 1000 * m.length := fun m => by
      induction m with
      | nil => simp [wS]
      | cons a m ih =>
        intro h
        have := ih fun z hz => h z (by simp [hz])
        have := h a (by simp)
        unfold wS at *
        simp only [List.map_cons, List.sum_cons, List.length_cons]
        omega
    have := key l fun z hz => (hl2 z hz).2.2.2
    omega
  show _ = some (Fl.rt (midD l))
  unfold midD
  by_cases c : 0 < wS l
  · rw [if_pos c]
    have e3 := SS_fraction (a := tS l) (b := wS l) (okG_fr (by omega))
    generalize cF.enc (fr (tS l) (wS l)) = v at e3 ⊢
    generalize (l.map fun z => PyData.int z.2) = w1 at c1 e1
    generalize (l.map fun z => PyData.int (z.1 * z.2)) = w2 at c2' e2
    generalize wS l = u1 at *
    generalize tS l = u2 at *
    generalize l.map cF.enc = w at it c1 c2'
    generalize cLd.enc l = y at it c1 c2' ⊢
    unfold b_middle_of_loads
    simp [esc, escs, escS, it, c1, c2', e1, e2, c, e3]
  · rw [if_neg c]
    generalize (l.map fun z => PyData.int z.2) = w1 at c1 e1
    generalize wS l = u1 at *
    generalize l.map cF.enc = w at it c1 c2'
    generalize cLd.enc l = y at it c1 c2' ⊢
    unfold b_middle_of_loads
    simp [esc, escs, escS, it, c1, e1, c]
theorem SS_middle_of_loads {l : Ld} (h : okL l = true) : SS id_middle_of_loads [cLd.enc l] = some (midD l) := by
  show S_mid _ = _
  unfold S_mid
  exact spec_of (A1_enc cLd l) h
theorem r_turned_beam : ∀ ds d, SS id_turned_beam ds = some d → run optM C0 SS G0 n_turned_beam.length b_turned_beam ds = some d := by
  intro ds d h
  obtain ⟨⟨b, l⟩, h1, hp, rfl⟩ := spec_some (show S_turn ds = some d from h)
  obtain rfl := A2_some h1
  refine run_of ?_
  have er : dRev (cLd.enc l) = some (.tuple (l.reverse.map cF.enc)) := by
    rw [e_Ld, rv_t, ← List.map_reverse]
  have cc : ∀ s1 s3 s4 s5 : PV.Slot, compL optM (oStep C0 SS G0 (.tp (.cons (.nm 6) (.cons (.nm 7) .nil))) .yes (.tup (.cons (.bin .sub (.var 2) (.var 6)) (.cons (.var 7) .nil))) [.sh (cBm.enc b), s1, .sh (.int b.1), s3, s4, s5, .no, .no]) (l.reverse.map cF.enc) = some ((turnL b l).map cF.enc) := fun s1 s3 s4 s5 => by
    unfold turnL
    rw [List.map_map]
    refine compL_all fun z _ => ?_
    show _ = some (some (PyData.tuple [.int (b.1 - z.1), .int z.2]))
    rw [e_F]
    simp [oStep]
  have et : dBi .tuple (.list ((turnL b l).map cF.enc)) = some (cLd.enc (turnL b l)) := rfl
  have sl : ∀ e : E, slotOf e (cLd.enc (turnL b l)) = .sh (cLd.enc (turnL b l)) := fun e => slot_tup
  show _ = some (Fl.rt (.tuple [.tuple [.int b.1, .tuple [.int (b.1 - b.2.2), .int (b.1 - b.2.1)]], cLd.enc (turnL b l)]))
  simp only [e_Bm] at cc ⊢
  generalize cLd.enc (turnL b l) = v at et sl ⊢
  generalize (turnL b l).map cF.enc = u at cc et
  generalize l.reverse.map cF.enc = w at er cc
  generalize cLd.enc l = y at er ⊢
  unfold b_turned_beam
  simp [esc, escs, escS, er, cc, et, sl]
theorem SS_turned_beam {b : Bm} {l : Ld} (h : okBL b l = true) : SS id_turned_beam [cBm.enc b, cLd.enc l] = some (.tuple [cBm.enc (turnB b), cLd.enc (turnL b l)]) := by
  show S_turn _ = _
  unfold S_turn
  exact spec_of (p := fun z : Bm × Ld => okBL z.1 z.2) (f := fun z : Bm × Ld => .tuple [cBm.enc (turnB z.1), cLd.enc (turnL z.1 z.2)]) (t := (b, l)) (A2_enc cBm cLd b l) h
end PW

set_option maxHeartbeats 4000000
/-! The beams: the plain law, the law's statements. -/
namespace PW
open PySem PyProof.Rows L2 PV
/-- a beam and loads that the law draws -/
structure LB (b : Bm) (l : Ld) : Prop where
  long : 1 ≤ b.1 ∧ b.1 ≤ 7
  prop : 0 ≤ b.2.1 ∧ b.2.1 < b.2.2 ∧ b.2.2 ≤ b.1
  len : l.length ≤ 4
  it : ∀ z ∈ l, 0 ≤ z.1 ∧ z.1 ≤ b.1 ∧ 0 ≤ z.2 ∧ z.2 ≤ 6
section
variable {b : Bm} {l : Ld}
theorem LB.okB (h : LB b l) : okB b = true := okB_of (by have := h.long; omega) h.prop.1 h.prop.2.1 h.prop.2.2
theorem LB.okL (h : LB b l) : okL l = true := okL_of (by have := h.len; omega) fun z hz => by
  have := h.it z hz
  have := h.long
  omega
theorem LB.ok (h : LB b l) : okBL b l = true := okBL_of h.okB h.okL
theorem w_add (l : Ld) (p n : Int) : wS (l ++ [(p, n)]) = wS l + n := by simp [wS]
theorem t_add (l : Ld) (p n : Int) : tS (l ++ [(p, n)]) = tS l + p * n := by simp [tS]
theorem lies_iff : liesB b l = true ↔ b.2.1 * wS l ≤ tS l ∧ tS l ≤ b.2.2 * wS l := by simp [liesB]
theorem lies_add {p n : Int} : liesB b (l ++ [(p, n)]) = true ↔ b.2.1 * wS l + b.2.1 * n ≤ tS l + p * n ∧ tS l + p * n ≤ b.2.2 * wS l + b.2.2 * n := by
  rw [lies_iff, w_add, t_add, Int.mul_add, Int.mul_add]
theorem LB.sums (h : LB b l) : 0 ≤ wS l ∧ wS l ≤ 24 ∧ 0 ≤ tS l ∧ tS l ≤ 168 := by
  have key : ∀ m : Ld, (∀ z ∈ m, 0 ≤ z.1 ∧ z.1 ≤ 7 ∧ 0 ≤ z.2 ∧ z.2 ≤ 6) → 0 ≤ wS m ∧ wS m ≤ 6 * m.length ∧ 0 ≤ tS m ∧ tS m ≤ 42 * m.length := fun m => by
    induction m with
    | nil => simp [wS, tS]
    | cons a m ih =>
      intro h
      have i1 := ih fun z hz => h z (by simp [hz])
      have i2 := h a (by simp)
      have m0 := Int.mul_nonneg i2.1 i2.2.2.1
      have m1 : a.1 * a.2 ≤ 7 * a.2 := Int.mul_le_mul_of_nonneg_right i2.2.1 i2.2.2.1
      unfold wS tS at *
      simp only [List.map_cons, List.sum_cons, List.length_cons]
      omega
  have := key l fun z hz => by
    have := h.it z hz
    have := h.long
    omega
  have := h.len
  omega
/-- a load that is less lies, too -/
theorem lies_down {p n m : Int} (h0 : liesB b l = true) (hp : p < b.2.1 ∨ b.2.2 < p) (hb : b.2.1 < b.2.2) (hn : 0 ≤ n) (hm : n ≤ m) (h : liesB b (l ++ [(p, m)]) = true) : liesB b (l ++ [(p, n)]) = true := by
  rw [lies_iff] at h0
  rw [lies_add] at h ⊢
  rcases hp with hp | hp
  · have a1 : (b.2.1 - p) * n ≤ (b.2.1 - p) * m := Int.mul_le_mul_of_nonneg_left hm (by omega)
    have a2 : 0 ≤ (b.2.2 - p) * n := Int.mul_nonneg (by omega) hn
    rw [Int.sub_mul, Int.sub_mul] at a1
    rw [Int.sub_mul] at a2
    omega
  · have a1 : (p - b.2.2) * n ≤ (p - b.2.2) * m := Int.mul_le_mul_of_nonneg_left hm (by omega)
    have a2 : 0 ≤ (p - b.2.1) * n := Int.mul_nonneg (by omega) hn
    rw [Int.sub_mul, Int.sub_mul] at a1
    rw [Int.sub_mul] at a2
    omega
theorem lies_not (h : LB b l) {p : Int} (hp : p < b.2.1 ∨ b.2.2 < p) : liesB b (l ++ [(p, 400)]) = false := by
  cases q : liesB b (l ++ [(p, 400)]) with
  | false => rfl
  | true =>
    rw [lies_add] at q
    have hs := h.sums
    have hpr := h.prop
    have hl := h.long
    rcases hp with hp | hp
    · have a1 : 0 ≤ b.2.1 * wS l := Int.mul_nonneg hpr.1 hs.1
      have a2 : 1 * 400 ≤ (b.2.1 - p) * 400 := Int.mul_le_mul_of_nonneg_right (by omega) (by omega)
      rw [Int.sub_mul] at a2
      omega
    · have a1 : b.2.2 * wS l ≤ 7 * wS l := Int.mul_le_mul_of_nonneg_right (by omega) hs.1
      have a2 : 1 * 400 ≤ (p - b.2.2) * 400 := Int.mul_le_mul_of_nonneg_right (by omega) (by omega)
      rw [Int.sub_mul] at a2
      omega
def mostL (b : Bm) (l : Ld) (p : Int) : List Nat := (List.range 400).filter fun (n : Nat) => liesB b (l ++ [(p, (n : Int))])
theorem most_is (h : LB b l) {p : Int} (hp : p < b.2.1 ∨ b.2.2 < p) (h0 : liesB b l = true) : ∃ N, mostN b l p = some N ∧ dMax ((mostL b l p).map cNat.enc) = some (.int N) := by
  have h1 : (mostN b l p).isSome = true := by
    unfold mostN
    rw [List.find?_isSome]
    refine ⟨399, List.mem_range.mpr (by omega), ?_⟩
    have := lies_not h hp
    simpa using this
  obtain ⟨N, hN⟩ := Option.isSome_iff_exists.mp h1
  refine ⟨N, hN, ?_⟩
  obtain ⟨f1, f2, f3⟩ := find_range (show (List.range 400).find? (fun n : Nat => !liesB b (l ++ [(p, (n : Int) + 1)])) = some N from hN)
  have hb := h.prop.2.1
  have lN : liesB b (l ++ [(p, (N : Int))]) = true := by
    cases N with
    | zero =>
      rw [lies_add]
      rw [lies_iff] at h0
      simpa using h0
    | succ k =>
      have := f3 k (by omega)
      simpa using this
  have e : (mostL b l p).map cNat.enc = ((mostL b l p).map fun n : Nat => (n : Int)).map cInt.enc := by rw [List.map_map]; rfl
  rw [e]
  refine dMax_int (List.mem_map.mpr ⟨N, List.mem_filter.mpr ⟨List.mem_range.mpr f1, lN⟩, rfl⟩) fun x hx => ?_
  obtain ⟨n, hn, rfl⟩ := List.mem_map.mp hx
  obtain ⟨hn1, hn2⟩ := List.mem_filter.mp hn
  rcases Nat.lt_or_ge N n with c | c
  · have := lies_down (p := p) (n := (N : Int) + 1) (m := n) h0 hp hb (by omega) (by omega) hn2
    rw [this] at f2
    simp at f2
  · omega
end
/-! the law's statements -/
def eV (t : Int) (s3 s4 s5 s6 s7 s8 s9 s10 s11 s12 s13 s14 s15 s16 s17 s18 : PV.Slot) : PV.Env := [.no, .no, .sh (.int t), s3, s4, s5, s6, s7, s8, s9, s10, s11, s12, s13, s14, s15, s16, s17, s18, .no, .no, .no, .no]
abbrev eM (t : Int) (s3 s4 s5 s6 s8 s10 s14 s15 s16 : PV.Slot) : PV.Env := eV t s3 s4 s5 s6 .no s8 .no s10 .no .no .no s14 s15 s16 .no .no
section
variable {t : Int} {b : Bm} {l : Ld}
variable {s3 s4 s5 s6 s8 s10 s14 s15 s16 : PV.Slot}
theorem k4 (h : LB b l) : ex optM C0 SS G0 law_B0_s4 (eM t s3 s4 (.sh (cBm.enc b)) (.sh (cLd.enc l)) s8 s10 s14 s15 s16) = some (.nx (eM t s3 s4 (.sh (cBm.enc b)) (.sh (cLd.enc l)) s8 s10 s14 s15 s16)) := by
  have e1 := SS_rests h.ok
  have e2 := SS_law_rests h.ok
  have e3 := SS_lies h.ok
  have e4 := SS_law_lies h.ok
  have n1 : dCmp .ne (restsD b l) (restsD b l) = some false := ne_self_c (ok_2 ok_F ok_F (Nat.le_refl 1) (Nat.le_refl 1)) (by decide) (fr (r1S b l) (dB b), fr (s2S b l) (dB b))
  have b1 := @SS_law_is_bit (liesB b l) (liesB b l)
  rw [beq_self_eq_true] at b1
  generalize restsD b l = r at e1 e2 n1
  generalize liesB b l = q at e3 e4 b1
  generalize cLd.enc l = y at e1 e2 e3 e4 ⊢
  generalize cBm.enc b = x at e1 e2 e3 e4 ⊢
  simp [law_B0_s4, eV, esc, escs, e1, e2, e3, e4, n1, b1]
theorem rng_long (h : LB b l) : okR 0 (b.1 + 1) = true ∧ rng 0 (b.1 + 1) = (List.range (b.1.toNat + 1)).map cNat.enc := by
  have hl := h.long
  refine ⟨by unfold okR LINE; exact decide_eq_true (by omega), ?_⟩
  rw [show b.1 + 1 = ((b.1.toNat + 1 : Nat) : Int) by omega, rng_nat]
theorem k5 (h : LB b l) : ex optM C0 SS G0 law_B0_s5 (eM t (.sh (.int b.1)) s4 (.sh (cBm.enc b)) (.sh (cLd.enc l)) s8 s10 s14 s15 s16) = some (.nx (eM t (.sh (.int b.1)) s4 (.sh (cBm.enc b)) (.sh (cLd.enc l)) s8 s10 s14 s15 s16)) := by
  have hl := h.long
  obtain ⟨ok, er⟩ := rng_long h
  have key := forL_fold (g := fBody C0 SS G0 (.nm 7) law_B5) (ρ0 := eM t (.sh (.int b.1)) s4 (.sh (cBm.enc b)) (.sh (cLd.enc l)) s8 s10 s14 s15 s16) cNat.enc (fun _ : Unit => eM t (.sh (.int b.1)) s4 (.sh (cBm.enc b)) (.sh (cLd.enc l)) s8 s10 s14 s15 s16) (fun s _ => s) (fun _ xs => ∀ p ∈ xs, p < b.1.toNat + 1) (fun _ p xs hI => by
    have hp := hI p (by simp)
    have e1 := SS_bends_at (p := (p : Int)) h.ok (by omega)
    have e2 := SS_law_bend (p := (p : Int)) h.ok (by omega)
    have n1 := ne_self_c ok_F (by decide) (bendP b l p)
    refine ⟨⟨eV t (.sh (.int b.1)) s4 (.sh (cBm.enc b)) (.sh (cLd.enc l)) (.sh (.int p)) s8 .no s10 .no .no .no s14 s15 s16 .no .no, ?_, by simp [eV]⟩, fun y hy => hI y (by simp [hy])⟩
    generalize cF.enc (bendP b l p) = v at e1 e2 n1
    generalize cLd.enc l = y at e1 e2 ⊢
    generalize cBm.enc b = x at e1 e2 ⊢
    simp [fBody, law_B5, law_B5_s0, eV, esc, escs, e1, e2, n1]) (List.range (b.1.toNat + 1)) () fun p hp => List.mem_range.mp hp
  generalize (List.range (b.1.toNat + 1)).map cNat.enc = w at er key
  generalize cLd.enc l = y at key ⊢
  generalize cBm.enc b = x at key ⊢
  simp only [eV] at key
  simp [law_B0_s5, eV, esc, escs, escF, ok, er, key]
def cWv : Cod (Fr2 × Nat) := c2 cF cNat
theorem ok_Wv : CodOk cWv 2 := ok_2 ok_F ok_nat (by decide) (by decide)
theorem k6 (h : LB b l) : ex optM C0 SS G0 law_B0_s6 (eM t s3 s4 (.sh (cBm.enc b)) (.sh (cLd.enc l)) s8 s10 s14 s15 s16) = some (.nx (eM t s3 s4 (.sh (cBm.enc b)) (.sh (cLd.enc l)) s8 s10 s14 s15 s16)) := by
  have e1 := SS_worst_bend h.ok
  have e2 := SS_law_worst h.ok
  have n1 : dCmp .ne (wvD (worP b l)) (wvD (worP b l)) = some false := by
    obtain ⟨z, hz⟩ := wor_some b l
    rw [hz]
    exact ne_self_c ok_Wv (by decide) z
  generalize wvD (worP b l) = v at e1 e2 n1
  generalize cLd.enc l = y at e1 e2 ⊢
  generalize cBm.enc b = x at e1 e2 ⊢
  simp [law_B0_s6, eV, esc, escs, e1, e2, n1]
theorem k8 (h : LB b l) {w : Int} (hw : 0 ≤ w ∧ w < 9) : ex optM C0 SS G0 law_B0_s8 (eM t (.sh (.int b.1)) s4 (.sh (cBm.enc b)) (.sh (cLd.enc l)) (.sh (.int w)) s10 s14 s15 s16) = some (.nx (eM t (.sh (.int b.1)) s4 (.sh (cBm.enc b)) (.sh (cLd.enc l)) (.sh (.int w)) s10 s14 s15 s16)) := by
  have hl := h.long
  have hlen := h.len
  obtain ⟨ok, er⟩ := rng_long h
  have e1 := SS_safe_places h.okB h.okL (w := w) (by omega) (by omega)
  have cc : compL optM (oStep C0 SS G0 (.nm 21) (.call id_law_lies (.cons (.var 5) (.cons (.bin .add (.var 6) (.tup (.cons (.tup (.cons (.var 21) (.cons (.var 8) .nil))) .nil))) .nil))) (.var 21) (eM t (.sh (.int b.1)) s4 (.sh (cBm.enc b)) (.sh (cLd.enc l)) (.sh (.int w)) s10 s14 s15 s16)) ((List.range (b.1.toNat + 1)).map cNat.enc) = some ((safeP b l w).map cNat.enc) := by
    unfold safeP
    refine compL_fil (p := fun p : Nat => liesB b (l ++ [((p : Int), w)])) fun p hp => ?_
    have hp := List.mem_range.mp hp
    have a1 := add_ld (l := l) (x := (p : Int)) (y := w) (by omega)
    have e1 := SS_law_lies (b := b) (l := l ++ [((p : Int), w)]) (okBL_of h.okB (okL_add h.okL (by omega) (by simp only; omega)))
    show oStep _ _ _ _ _ _ _ (.int p) = _
    generalize liesB b (l ++ [((p : Int), w)]) = q at e1 ⊢
    generalize cLd.enc (l ++ [((p : Int), w)]) = v at a1 e1
    generalize cLd.enc l = y at a1 ⊢
    generalize cBm.enc b = x at e1 ⊢
    cases q <;> simp [oStep, eV, a1, e1]
  have et : dBi .tuple (.list ((safeP b l w).map cNat.enc)) = some ((cT cNat).enc (safeP b l w)) := rfl
  have n1 := ne_self_c (ok_T ok_nat) (by decide) (safeP b l w)
  generalize (cT cNat).enc (safeP b l w) = v at e1 et n1
  generalize (safeP b l w).map cNat.enc = u at cc et
  generalize (List.range (b.1.toNat + 1)).map cNat.enc = r at er cc
  generalize cLd.enc l = y at e1 cc ⊢
  generalize cBm.enc b = x at e1 cc ⊢
  simp only [eV] at cc
  simp [law_B0_s8, eV, esc, escs, escS, e1, ok, er, cc, et, n1]
def dueD (b : Bm) (l : Ld) (p : Int) : D := mostD b l p
theorem k9 (h : LB b l) : ex optM C0 SS G0 law_B0_s9 (eM t (.sh (.int b.1)) s4 (.sh (cBm.enc b)) (.sh (cLd.enc l)) s8 s10 s14 s15 s16) = some (.nx (eM t (.sh (.int b.1)) s4 (.sh (cBm.enc b)) (.sh (cLd.enc l)) s8 s10 s14 s15 s16)) := by
  have hl := h.long
  have hlen := h.len
  obtain ⟨ok, er⟩ := rng_long h
  have key := forL_fold (g := fBody C0 SS G0 (.nm 7) law_B4) (ρ0 := eM t (.sh (.int b.1)) s4 (.sh (cBm.enc b)) (.sh (cLd.enc l)) s8 s10 s14 s15 s16) cNat.enc (fun _ : Unit => eM t (.sh (.int b.1)) s4 (.sh (cBm.enc b)) (.sh (cLd.enc l)) s8 s10 s14 s15 s16) (fun s _ => s) (fun _ xs => ∀ p ∈ xs, p < b.1.toNat + 1) (fun _ p xs hI => by
    have hp := hI p (by simp)
    have e1 := SS_law_lies h.ok
    have g1 : dIx (cBm.enc b) (.int 1) = some (.tuple [.int b.2.1, .int b.2.2]) := rfl
    refine ⟨⟨eV t (.sh (.int b.1)) s4 (.sh (cBm.enc b)) (.sh (cLd.enc l)) (.sh (.int p)) s8 (.sh (mostD b l p)) s10 .no .no .no s14 s15 s16 .no .no, ?_, by simp [eV]⟩, fun y hy => hI y (by simp [hy])⟩
    by_cases c : earlyB b l p = true
    · have ed : mostD b l p = .none := by unfold mostD; rw [if_pos c]
      have e2 := SS_most_at (p := (p : Int)) h.okB h.okL (by omega) (by omega) (by rw [c]; rfl)
      rw [ed] at e2 ⊢
      have n0 : dCmp .ne .none .none = some false := rfl
      unfold earlyB at c
      generalize liesB b l = q at e1 c
      generalize cLd.enc l = y at e1 e2 ⊢
      generalize cBm.enc b = x at g1 e1 e2 ⊢
      cases q with
      | false => simp [fBody, law_B4, law_B4_s0, law_B4_s1, law_B4_s2, eV, esc, escs, escS, e1, e2, n0]
      | true =>
        have c : b.2.1 ≤ (p : Int) ∧ (p : Int) ≤ b.2.2 := by simpa using c
        have d1 : ¬ (p : Int) < b.2.1 := by omega
        have d2 : ¬ b.2.2 < (p : Int) := by omega
        simp [fBody, law_B4, law_B4_s0, law_B4_s1, law_B4_s2, eV, esc, escs, escS, e1, e2, n0, g1, d1, d2]
    · have c' : earlyB b l p = false := by simpa using c
      unfold earlyB at c'
      simp only [Bool.or_eq_false_iff, Bool.not_eq_false'] at c'
      have hq := c'.2
      have hp2 : (p : Int) < b.2.1 ∨ b.2.2 < (p : Int) := by
        have := c'.1
        simp only [Bool.and_eq_false_iff, decide_eq_false_iff_not] at this
        omega
      obtain ⟨N, hN, hM⟩ := most_is h hp2 hq
      have ed : mostD b l p = .int N := by unfold mostD; rw [if_neg c, hN]
      have e2 := SS_most_at (p := (p : Int)) h.okB h.okL (by omega) (by omega) (by rw [hN]; simp)
      rw [ed] at e2 ⊢
      rw [hq] at e1
      have ok4 : okR 0 400 = true := by decide
      have er4 : rng 0 400 = (List.range 400).map cNat.enc := rng_nat 400
      have cc : ∀ s9 : PV.Slot, compL optM (oStep C0 SS G0 (.nm 22) (.call id_law_lies (.cons (.var 5) (.cons (.bin .add (.var 6) (.tup (.cons (.tup (.cons (.var 7) (.cons (.var 22) .nil))) .nil))) .nil))) (.var 22) (eV t (.sh (.int b.1)) s4 (.sh (cBm.enc b)) (.sh (cLd.enc l)) (.sh (.int p)) s8 s9 s10 .no .no .no s14 s15 s16 .no .no)) ((List.range 400).map cNat.enc) = some ((mostL b l p).map cNat.enc) := fun s9 => by
        unfold mostL
        refine compL_fil (p := fun n : Nat => liesB b (l ++ [((p : Int), (n : Int))])) fun n hn => ?_
        have hn := List.mem_range.mp hn
        have a1 := add_ld (l := l) (x := (p : Int)) (y := (n : Int)) (by omega)
        have e1 := SS_law_lies (b := b) (l := l ++ [((p : Int), (n : Int))]) (okBL_of h.okB (okL_add h.okL (by omega) (by simp only; omega)))
        show oStep _ _ _ _ _ _ _ (.int n) = _
        generalize liesB b (l ++ [((p : Int), (n : Int))]) = q at e1 ⊢
        generalize cLd.enc (l ++ [((p : Int), (n : Int))]) = v at a1 e1
        generalize cLd.enc l = y at a1 ⊢
        generalize cBm.enc b = x at e1 ⊢
        cases q <;> simp [oStep, eV, a1, e1]
      have em : dBi .max (.list ((mostL b l p).map cNat.enc)) = some (.int N) := hM
      generalize (mostL b l p).map cNat.enc = u at cc em
      generalize (List.range 400).map cNat.enc = r at er4 cc
      generalize cLd.enc l = y at e1 e2 cc ⊢
      generalize cBm.enc b = x at g1 e1 e2 cc ⊢
      simp only [eV] at cc
      rcases hp2 with d1 | d1
      · simp [fBody, law_B4, law_B4_s0, law_B4_s1, law_B4_s2, eV, esc, escs, escS, e1, e2, g1, d1, ok4, er4, cc, em]
      · have d2 : ¬ (p : Int) < b.2.1 := by have := h.prop; omega
        simp [fBody, law_B4, law_B4_s0, law_B4_s1, law_B4_s2, eV, esc, escs, escS, e1, e2, g1, d1, d2, ok4, er4, cc, em]) (List.range (b.1.toNat + 1)) () fun p hp => List.mem_range.mp hp
  generalize (List.range (b.1.toNat + 1)).map cNat.enc = w at er key
  generalize cLd.enc l = y at key ⊢
  generalize cBm.enc b = x at key ⊢
  simp only [eV] at key
  simp [law_B0_s9, eV, esc, escs, escF, ok, er, key]
theorem k10 : ex optM C0 SS G0 law_B0_s10 (eM t s3 s4 s5 s6 s8 .no s14 s15 s16) = some (.nx (eM t s3 s4 s5 s6 s8 (.sh .none) s14 s15 s16)) := by
  simp [law_B0_s10, eV, esc, escs]
end
end PW

set_option maxHeartbeats 4000000
/-! The beams: the law's statements, more. -/
namespace PW
open PySem PyProof.Rows L2 PV
section
variable {t : Int} {b : Bm} {l : Ld}
variable {s3 s4 s5 s6 s8 s10 s14 s15 s16 : PV.Slot}
theorem k11 (h : LB b l) : ex optM C0 SS G0 law_B0_s11 (eM t (.sh (.int b.1)) s4 s5 (.sh (cLd.enc l)) s8 (.sh .none) s14 s15 s16) = some (.nx (eM t (.sh (.int b.1)) s4 s5 (.sh (cLd.enc l)) s8 (.sh (bpD (bpP b.1 l))) s14 s15 s16)) := by
  have hL := h.long
  have hl := h.okL
  have turn : ∀ (s : Option (Fr2 × Int × Int)) (a c : Int), smP s → 0 ≤ a → a < c → c ≤ b.1 → ∃ ρ', fBody C0 SS G0 (.nm 12) law_B3 (.int c) (eV t (.sh (.int b.1)) s4 s5 (.sh (cLd.enc l)) .no s8 .no (.sh (bpD s)) (.sh (.int a)) .no .no s14 s15 s16 .no .no) = some (.nx ρ') ∧ ∀ s0, msk (eV t (.sh (.int b.1)) s4 s5 (.sh (cLd.enc l)) .no s8 .no (.sh s0) (.sh (.int a)) .no .no s14 s15 s16 .no .no) ρ' = eV t (.sh (.int b.1)) s4 s5 (.sh (cLd.enc l)) .no s8 .no (.sh (bpD (bpS b.1 l s a c))) (.sh (.int a)) .no .no s14 s15 s16 .no .no := fun s a c hs ha hc hcl => by
    have hb := okB_of (long := b.1) (a := a) (c := c) (by omega) ha hc hcl
    have e1 := SS_law_lies (b := (b.1, a, c)) (l := l) (okBL_of hb hl)
    have e2 := SS_law_worst (b := (b.1, a, c)) (l := l) (okBL_of hb hl)
    have eb : cBm.enc (b.1, a, c) = .tuple [.int b.1, .tuple [.int a, .int c]] := rfl
    rw [eb] at e1 e2
    have hw := wor_sm (b := (b.1, a, c)) (l := l) hb
    obtain ⟨z, hz⟩ := wor_some (b.1, a, c) l
    rw [hz] at e2 hw
    have hw : PV.small64 z.1.2 = true := hw
    unfold bpS
    by_cases c1 : liesB (b.1, a, c) l = true
    · rw [if_pos c1, hz]
      rw [c1] at e1
      have i0 := e_wv (z := z)
      have sl : ∀ e : E, slotOf e (cF.enc z.1) = .sh (cF.enc z.1) := fun e => slot_tup
      simp only
      cases s with
      | none =>
        simp only [bpD]
        rw [e_F (a, c)]
        generalize wvD (some z) = w at e2 i0
        generalize cF.enc z.1 = u at i0 sl ⊢
        generalize cLd.enc l = y at e1 e2 ⊢
        refine ⟨eV t (.sh (.int b.1)) s4 s5 (.sh y) .no s8 .no (.sh (.tuple [u, .tuple [.int a, .int c]])) (.sh (.int a)) (.sh (.int c)) (.sh u) s14 s15 s16 .no .no, ?_, fun s0 => by simp [eV]⟩
        simp [fBody, law_B3, law_B3_s0, eV, esc, escs, e1, e2, i0, sl]
      | some q =>
        have hs : PV.small64 q.1.2 = true := hs
        have e3 := SS_law_below (p := z.1) (q := q.1) (by unfold okS; rw [hw, hs]; rfl)
        have i1 : dIx (bpD (some q)) (.int 0) = some (cF.enc q.1) := rfl
        have n0 : isN (bpD (some q)) = false := rfl
        have sl3 : ∀ e : E, slotOf e (bpD (some q)) = .sh (bpD (some q)) := fun e => slot_tup
        simp only
        by_cases c2 : flt z.1 q.1 = true
        · rw [if_pos c2]
          rw [c2] at e3
          have ew : bpD (some (z.1, a, c)) = .tuple [cF.enc z.1, .tuple [.int a, .int c]] := rfl
          rw [ew]
          generalize bpD (some q) = w2 at i1 n0 sl3 ⊢
          generalize cF.enc q.1 = u2 at e3 i1
          generalize wvD (some z) = w at e2 i0
          generalize cF.enc z.1 = u at e3 i0 sl ⊢
          generalize cLd.enc l = y at e1 e2 ⊢
          refine ⟨eV t (.sh (.int b.1)) s4 s5 (.sh y) .no s8 .no (.sh (.tuple [u, .tuple [.int a, .int c]])) (.sh (.int a)) (.sh (.int c)) (.sh u) s14 s15 s16 .no .no, ?_, fun s0 => by simp [eV]⟩
          simp [fBody, law_B3, law_B3_s0, eV, esc, escs, e1, e2, i0, sl, i1, n0, e3]
        · have c2' : flt z.1 q.1 = false := by simpa using c2
          rw [if_neg c2]
          rw [c2'] at e3
          generalize bpD (some q) = w2 at i1 n0 sl3 ⊢
          generalize cF.enc q.1 = u2 at e3 i1
          generalize wvD (some z) = w at e2 i0
          generalize cF.enc z.1 = u at e3 i0 sl ⊢
          generalize cLd.enc l = y at e1 e2 ⊢
          refine ⟨eV t (.sh (.int b.1)) s4 s5 (.sh y) .no s8 .no (.sh w2) (.sh (.int a)) (.sh (.int c)) (.sh u) s14 s15 s16 .no .no, ?_, fun s0 => by simp [eV]⟩
          simp [fBody, law_B3, law_B3_s0, eV, esc, escs, e1, e2, i0, sl, sl3, i1, n0, e3]
    · have c1' : liesB (b.1, a, c) l = false := by simpa using c1
      rw [if_neg c1]
      rw [c1'] at e1
      generalize bpD s = w2
      generalize cLd.enc l = y at e1 ⊢
      refine ⟨eV t (.sh (.int b.1)) s4 s5 (.sh y) .no s8 .no (.sh w2) (.sh (.int a)) (.sh (.int c)) .no s14 s15 s16 .no .no, ?_, fun s0 => by simp [eV]⟩
      simp [fBody, law_B3, law_B3_s0, eV, esc, escs, e1]
  have inner : ∀ (s : Option (Fr2 × Int × Int)) (a : Nat), smP s → a ≤ b.1.toNat → forL optM (fBody C0 SS G0 (.nm 12) law_B3) (eV t (.sh (.int b.1)) s4 s5 (.sh (cLd.enc l)) .no s8 .no (.sh (bpD s)) (.sh (.int a)) .no .no s14 s15 s16 .no .no) ((List.range (b.1.toNat - a)).map fun (k : Nat) => PyData.int ((a : Int) + 1 + k)) (eV t (.sh (.int b.1)) s4 s5 (.sh (cLd.enc l)) .no s8 .no (.sh (bpD s)) (.sh (.int a)) .no .no s14 s15 s16 .no .no) = some (.nx (eV t (.sh (.int b.1)) s4 s5 (.sh (cLd.enc l)) .no s8 .no (.sh (bpD (bpR b.1 l s a))) (.sh (.int a)) .no .no s14 s15 s16 .no .no)) ∧ smP (bpR b.1 l s a) := fun s a hs ha => by
    have hsm : ∀ (xs : List Nat) (s : Option (Fr2 × Int × Int)), smP s → (∀ k ∈ xs, k < b.1.toNat - a) → smP (xs.foldl (fun s (k : Nat) => bpS b.1 l s a ((a : Int) + 1 + k)) s) := fun xs => by
      induction xs with
      | nil => exact fun s hs _ => hs
      | cons x xs ih =>
        intro s hs hx
        have := hx x (by simp)
        exact ih _ (bpS_sm (okB_of (by omega) (by omega) (by omega) (by omega)) hs) fun k hk => hx k (by simp [hk])
    refine ⟨?_, hsm _ _ hs fun k hk => List.mem_range.mp hk⟩
    refine forL_fold (fun (k : Nat) => PyData.int ((a : Int) + 1 + k)) (fun s : Option (Fr2 × Int × Int) => eV t (.sh (.int b.1)) s4 s5 (.sh (cLd.enc l)) .no s8 .no (.sh (bpD s)) (.sh (.int a)) .no .no s14 s15 s16 .no .no) (fun s (k : Nat) => bpS b.1 l s a ((a : Int) + 1 + k)) (fun s xs => smP s ∧ ∀ k ∈ xs, k < b.1.toNat - a) (fun s k xs hI => ?_) (List.range (b.1.toNat - a)) s ⟨hs, fun k hk => List.mem_range.mp hk⟩
    obtain ⟨hs, hx⟩ := hI
    have hk := hx k (by simp)
    obtain ⟨ρ', t1, t2⟩ := turn s a ((a : Int) + 1 + k) hs (by omega) (by omega) (by omega)
    exact ⟨⟨ρ', t1, t2 _⟩, bpS_sm (okB_of (by omega) (by omega) (by omega) (by omega)) hs, fun k hk => hx k (by simp [hk])⟩
  have key := forL_fold (g := fBody C0 SS G0 (.nm 11) law_B2) (ρ0 := eM t (.sh (.int b.1)) s4 s5 (.sh (cLd.enc l)) s8 (.sh .none) s14 s15 s16) cNat.enc (fun s : Option (Fr2 × Int × Int) => eM t (.sh (.int b.1)) s4 s5 (.sh (cLd.enc l)) s8 (.sh (bpD s)) s14 s15 s16) (bpR b.1 l) (fun s xs => smP s ∧ ∀ a ∈ xs, a ≤ b.1.toNat) (fun s a xs hI => by
    obtain ⟨hs, hx⟩ := hI
    have ha := hx a (by simp)
    obtain ⟨i1, i2⟩ := inner s a hs ha
    have ok : okR ((a : Int) + 1) (b.1 + 1) = true := by unfold okR LINE; exact decide_eq_true (by omega)
    have er : rng ((a : Int) + 1) (b.1 + 1) = (List.range (b.1.toNat - a)).map fun (k : Nat) => PyData.int ((a : Int) + 1 + k) := by
      rw [rng_map, show (b.1 + 1 - ((a : Int) + 1)).toNat = b.1.toNat - a by omega]
    refine ⟨⟨eV t (.sh (.int b.1)) s4 s5 (.sh (cLd.enc l)) .no s8 .no (.sh (bpD (bpR b.1 l s a))) (.sh (.int a)) .no .no s14 s15 s16 .no .no, ?_, by simp [eV]⟩, i2, fun y hy => hx y (by simp [hy])⟩
    generalize bpD (bpR b.1 l s a) = q at i1 ⊢
    generalize bpD s = q0 at i1 ⊢
    generalize ((List.range (b.1.toNat - a)).map fun (k : Nat) => PyData.int ((a : Int) + 1 + k)) = w at er i1
    generalize cLd.enc l = y at i1 ⊢
    simp only [eV] at i1
    simp [fBody, law_B2, law_B2_s0, eV, esc, escs, escF, ok, er, i1]) (List.range (b.1.toNat + 1)) none ⟨trivial, fun a ha => by have := List.mem_range.mp ha; omega⟩
  have key : forL optM (fBody C0 SS G0 (.nm 11) law_B2) (eM t (.sh (.int b.1)) s4 s5 (.sh (cLd.enc l)) s8 (.sh .none) s14 s15 s16) ((List.range (b.1.toNat + 1)).map cNat.enc) (eM t (.sh (.int b.1)) s4 s5 (.sh (cLd.enc l)) s8 (.sh .none) s14 s15 s16) = some (.nx (eM t (.sh (.int b.1)) s4 s5 (.sh (cLd.enc l)) s8 (.sh (bpD (bpP b.1 l))) s14 s15 s16)) := key
  obtain ⟨ok, er⟩ := rng_long h
  generalize bpD (bpP b.1 l) = q at key ⊢
  generalize (List.range (b.1.toNat + 1)).map cNat.enc = w at er key
  generalize cLd.enc l = y at key ⊢
  simp only [eV] at key
  simp [law_B0_s11, eV, esc, escs, escF, ok, er, key]
def cBp : Cod (Fr2 × Int × Int) := c2 cF cF
theorem ok_Bp : CodOk cBp 2 := ok_2 ok_F ok_F (Nat.le_refl 1) (Nat.le_refl 1)
theorem k12 (h : LB b l) : ex optM C0 SS G0 law_B0_s12 (eM t (.sh (.int b.1)) s4 s5 (.sh (cLd.enc l)) s8 (.sh (bpD (bpP b.1 l))) s14 s15 s16) = some (.nx (eM t (.sh (.int b.1)) s4 s5 (.sh (cLd.enc l)) s8 (.sh (bpD (bpP b.1 l))) s14 s15 s16)) := by
  have hL := h.long
  have e1 := SS_best_props (long := b.1) (l := l) (by omega) h.okL
  have n1 : dCmp .ne (bpD (bpP b.1 l)) (bpD (bpP b.1 l)) = some false := by
    cases bpP b.1 l with
    | none => rfl
    | some z => exact ne_self_c ok_Bp (by decide) z
  generalize bpD (bpP b.1 l) = v at e1 n1 ⊢
  generalize cLd.enc l = y at e1 ⊢
  simp [law_B0_s12, eV, esc, escs, e1, n1]
theorem k13 (h : LB b l) : ex optM C0 SS G0 law_B0_s13 (eM t s3 s4 s5 (.sh (cLd.enc l)) s8 s10 .no s15 s16) = some (.nx (eM t s3 s4 s5 (.sh (cLd.enc l)) s8 s10 (.ow (.list ((uniqS (l.map fun z => z.1)).map cInt.enc))) s15 s16)) := by
  have hlen := h.len
  have it : items (cLd.enc l) = some (l.map cF.enc) := rfl
  have c1 : compL optM (oStep C0 SS G0 (.nm 20) .yes (.ix (.var 20) (.int 0)) (eM t s3 s4 s5 (.sh (cLd.enc l)) s8 s10 .no s15 s16)) (l.map cF.enc) = some ((l.map fun z => z.1).map cInt.enc) := by
    rw [List.map_map]
    refine compL_all fun z _ => ?_
    rw [e_F]
    simp [oStep, eV]
  have e1 := i_sset (r := l.map fun z => z.1) (by rw [List.length_map]; omega)
  generalize (uniqS (l.map fun z => z.1)).map cInt.enc = w2 at e1 ⊢
  generalize (l.map fun z => z.1).map cInt.enc = w1 at c1 e1
  generalize l.map cF.enc = w at it c1
  generalize cLd.enc l = y at it c1 ⊢
  simp only [eV] at c1
  simp [law_B0_s13, eV, esc, escs, escS, it, c1, e1]
theorem k14 (h : LB b l) : ex optM C0 SS G0 law_B0_s14 (eM t s3 s4 s5 (.sh (cLd.enc l)) s8 s10 s14 .no s16) = some (.nx (eM t s3 s4 s5 (.sh (cLd.enc l)) s8 s10 s14 (.sh (.int (wS l))) s16)) := by
  have it : items (cLd.enc l) = some (l.map cF.enc) := rfl
  have c1 : compL optM (oStep C0 SS G0 (.nm 20) .yes (.ix (.var 20) (.int 1)) (eM t s3 s4 s5 (.sh (cLd.enc l)) s8 s10 s14 .no s16)) (l.map cF.enc) = some (l.map fun z => .int z.2) := by
    refine compL_all fun z _ => ?_
    rw [e_F]
    simp [oStep, eV]
  have e1 : dBi .sum (.list (l.map fun z => .int z.2)) = some (.int (wS l)) := i_sumf
  generalize (l.map fun z => PyData.int z.2) = w1 at c1 e1
  generalize l.map cF.enc = w at it c1
  generalize cLd.enc l = y at it c1 ⊢
  simp only [eV] at c1
  simp [law_B0_s14, eV, esc, escs, escS, it, c1, e1]
theorem k15 (h : LB b l) : ex optM C0 SS G0 law_B0_s15 (eM t s3 s4 s5 (.sh (cLd.enc l)) s8 s10 (.ow (.list ((uniqS (l.map fun z => z.1)).map cInt.enc))) s15 s16) = some (.nx (eM t s3 s4 s5 (.sh (cLd.enc l)) s8 s10 (.ow (.list ((uniqS (l.map fun z => z.1)).map cInt.enc))) s15 s16)) := by
  have it : items (cLd.enc l) = some (l.map cF.enc) := rfl
  have e1 := SS_joined_loads h.okL
  have cc : compL optM (oStep C0 SS G0 (.nm 21) .yes (.tup (.cons (.var 21) (.cons (.bi .sum (.comp [20] (.nm 20) (.val (.var 6)) (.cmp .eq (.ix (.var 20) (.int 0)) (.var 21)) (.ix (.var 20) (.int 1)))) .nil))) (eM t s3 s4 s5 (.sh (cLd.enc l)) s8 s10 (.ow (.list ((uniqS (l.map fun z => z.1)).map cInt.enc))) s15 s16)) ((uniqS (l.map fun z => z.1)).map cInt.enc) = some ((joinP l).map cF.enc) := by
    rw [join_is, List.map_map]
    refine compL_all fun p _ => ?_
    have ci : compL optM (oStep C0 SS G0 (.nm 20) (.cmp .eq (.ix (.var 20) (.int 0)) (.var 21)) (.ix (.var 20) (.int 1)) ((eM t s3 s4 s5 (.sh (cLd.enc l)) s8 s10 (.ow (.list ((uniqS (l.map fun z => z.1)).map cInt.enc))) s15 s16).set 21 (.sh (.int p)))) (l.map cF.enc) = some ((l.filter fun z => decide (z.1 = p)).map fun z => .int z.2) := by
      refine compL_fil (p := fun z : Int × Int => decide (z.1 = p)) fun z _ => ?_
      generalize (uniqS (l.map fun z => z.1)).map cInt.enc = w2
      rw [e_F]
      by_cases c : z.1 = p <;> simp [oStep, eV, c]
    have es : dBi .sum (.list ((l.filter fun z => decide (z.1 = p)).map fun z => .int z.2)) = some (.int (atSum l p)) := i_sumf
    show oStep _ _ _ _ _ _ _ (.int p) = some (some (.tuple [.int p, .int (atSum l p)]))
    generalize (uniqS (l.map fun z => z.1)).map cInt.enc = w2 at ci ⊢
    generalize ((l.filter fun z => decide (z.1 = p)).map fun z => PyData.int z.2) = w at ci es
    generalize l.map cF.enc = v at it ci
    generalize cLd.enc l = y at it ci ⊢
    simp only [eV, List.set] at ci
    simp [oStep, eV, it, ci, es]
  have et : dBi .tuple (.list ((joinP l).map cF.enc)) = some (cLd.enc (joinP l)) := rfl
  have n1 := ne_self_c ok_Ld (by decide) (joinP l)
  generalize cLd.enc (joinP l) = v at e1 et n1
  generalize (joinP l).map cF.enc = u at cc et
  generalize (uniqS (l.map fun z => z.1)).map cInt.enc = w2 at cc ⊢
  generalize cLd.enc l = y at e1 cc ⊢
  simp only [eV] at cc
  simp [law_B0_s15, eV, esc, escs, escS, e1, cc, et, n1]
theorem k16 (h : LB b l) : ex optM C0 SS G0 law_B0_s16 (eM t s3 s4 s5 (.sh (cLd.enc l)) s8 s10 s14 (.sh (.int (wS l))) s16) = some (.nx (eM t s3 s4 s5 (.sh (cLd.enc l)) s8 s10 s14 (.sh (.int (wS l))) s16)) := by
  have it : items (cLd.enc l) = some (l.map cF.enc) := rfl
  have e1 := SS_middle_of_loads h.okL
  have hw := h.sums
  unfold midD at e1
  by_cases c : 0 < wS l
  · rw [if_pos c] at e1
    have c1 : compL optM (oStep C0 SS G0 (.tp (.cons (.nm 21) (.cons (.nm 22) .nil))) .yes (.bin .mul (.var 21) (.var 22)) (eM t s3 s4 s5 (.sh (cLd.enc l)) s8 s10 s14 (.sh (.int (wS l))) s16)) (l.map cF.enc) = some (l.map fun z => .int (z.1 * z.2)) := by
      refine compL_all fun z hz => ?_
      have s := sm_w (x := z.2) (by have := h.it z hz; omega)
      rw [e_F]
      simp [oStep, eV, s]
    have e2 : dBi .sum (.list (l.map fun z => .int (z.1 * z.2))) = some (.int (tS l)) := i_sumf
    have e3 := SS_law_frac (a := tS l) (b := wS l) (okG_fr (by omega))
    have n1 := ne_self_c ok_F (by decide) (fr (tS l) (wS l))
    generalize cF.enc (fr (tS l) (wS l)) = v at e1 e3 n1
    generalize (l.map fun z => PyData.int (z.1 * z.2)) = w2 at c1 e2
    generalize wS l = u1 at *
    generalize tS l = u2 at *
    generalize l.map cF.enc = w at it c1
    generalize cLd.enc l = y at it e1 c1 ⊢
    simp only [eV] at c1
    simp [law_B0_s16, eV, esc, escs, escS, it, e1, c1, e2, c, e3, n1]
  · rw [if_neg c] at e1
    have n0 : dCmp .ne .none .none = some false := rfl
    generalize wS l = u1 at *
    generalize cLd.enc l = y at e1 ⊢
    simp [law_B0_s16, eV, esc, escs, escS, e1, c, n0]
theorem k17 (h : LB b l) : ex optM C0 SS G0 law_B0_s17 (eM t (.sh (.int b.1)) s4 (.sh (cBm.enc b)) (.sh (cLd.enc l)) s8 s10 s14 s15 s16) = some (.nx (eM t (.sh (.int b.1)) s4 (.sh (cBm.enc b)) (.sh (cLd.enc l)) s8 s10 s14 s15 s16)) := by
  have e1 := SS_turned_beam h.ok
  have g1 : dIx (cBm.enc b) (.int 1) = some (.tuple [.int b.2.1, .int b.2.2]) := rfl
  have er : dRev (cLd.enc l) = some (.tuple (l.reverse.map cF.enc)) := by
    rw [e_Ld, rv_t, ← List.map_reverse]
  have cc : compL optM (oStep C0 SS G0 (.tp (.cons (.nm 21) (.cons (.nm 22) .nil))) .yes (.tup (.cons (.bin .sub (.var 3) (.var 21)) (.cons (.var 22) .nil))) (eM t (.sh (.int b.1)) s4 (.sh (cBm.enc b)) (.sh (cLd.enc l)) s8 s10 s14 s15 s16)) (l.reverse.map cF.enc) = some ((turnL b l).map cF.enc) := by
    unfold turnL
    rw [List.map_map]
    refine compL_all fun z _ => ?_
    show _ = some (some (PyData.tuple [.int (b.1 - z.1), .int z.2]))
    generalize cBm.enc b = x
    rw [e_F]
    simp [oStep, eV]
  have et : dBi .tuple (.list ((turnL b l).map cF.enc)) = some (cLd.enc (turnL b l)) := rfl
  have n1 : dCmp .ne (.tuple [cBm.enc (turnB b), cLd.enc (turnL b l)]) (.tuple [cBm.enc (turnB b), cLd.enc (turnL b l)]) = some false := ne_self_c (ok_2 ok_Bm ok_Ld (Nat.le_refl 2) (Nat.le_refl 2)) (by decide) (turnB b, turnL b l)
  have eb : cBm.enc (turnB b) = .tuple [.int b.1, .tuple [.int (b.1 - b.2.2), .int (b.1 - b.2.1)]] := rfl
  rw [eb] at n1 e1
  generalize cLd.enc (turnL b l) = v at e1 et n1
  generalize (turnL b l).map cF.enc = u at cc et
  generalize l.reverse.map cF.enc = w at er cc
  generalize cLd.enc l = y at e1 er cc ⊢
  generalize cBm.enc b = x at e1 g1 cc ⊢
  simp only [eV] at cc
  simp [law_B0_s17, eV, esc, escs, escS, e1, g1, er, cc, et, n1]
/-! things -/
def bases (b : Bm) : List D := [cBm.enc b, .list [.int b.1, .tuple [.int b.2.1, .int b.2.2]], .none, .tuple [], .tuple [.int b.1], .tuple [.int b.1, .tuple [.int b.2.1, .int b.2.2], .int 0], .tuple [.int 0, .tuple [.int 0, .int 0]], .tuple [.bool true, .tuple [.int b.2.1, .int b.2.2]], .tuple [.int b.1, .list [.int b.2.1, .int b.2.2]], .tuple [.int b.1, .tuple [.int b.2.2, .int b.2.1]], .tuple [.int b.1, .tuple [.int 0, .int (b.1 + 1)]]]
def mores (b : Bm) : List D := [.tuple [.int b.1, .tuple [.int (-1), .int 1]], .tuple [.int b.1, .tuple [.int 0, .int 0]], .tuple [.int b.1, .tuple [.int 0]], .tuple [.int b.1, .tuple [.bool false, .int 1]], .tuple [.int b.1, .none], .tuple [.int b.1, .tuple [.int 0, .int b.1]]]
theorem k18 (h : LB b l) : ex optM C0 SS G0 law_B0_s18 (eM t (.sh (.int b.1)) s4 (.sh (cBm.enc b)) s6 s8 s10 s14 s15 .no) = some (.nx (eM t (.sh (.int b.1)) s4 (.sh (cBm.enc b)) s6 s8 s10 s14 s15 (.ow (.list (bases b))))) := by
  have g1 : dIx (cBm.enc b) (.int 1) = some (.tuple [.int b.2.1, .int b.2.2]) := rfl
  have e1 : dBi .list (cBm.enc b) = some (.list [.int b.1, .tuple [.int b.2.1, .int b.2.2]]) := rfl
  unfold bases
  generalize cBm.enc b = x at g1 e1 ⊢
  simp [law_B0_s18, eV, esc, escs, g1, e1]
def okEl (d : D) : Bool := match d with
  | .int _ => true
  | .bool _ => true
  | _ => false
def okTh (d : D) : Bool := match d with
  | .tuple [_, .tuple [a, c]] => okEl a && okEl c
  | .tuple _ => true
  | .list _ => true
  | .none => true
  | _ => false
def right0 (d : D) : Bool := match d with
  | .tuple [x, .tuple [_, _]] => numB x && decide (0 < asI x)
  | _ => false
theorem beq_tt {q : Bool} : SS id_law_is_bit [.bool q, .bool q] = some (.bool true) := by
  have := @SS_law_is_bit q q
  rwa [beq_self_eq_true] at this
theorem thing_s0 {d : D} (h : okTh d = true) : ex optM C0 SS G0 law_B1_s0 (eV t s3 s4 s5 s6 .no s8 .no s10 .no .no .no s14 s15 s16 (.sh d) .no) = some (.nx (eV t s3 s4 s5 s6 .no s8 .no s10 .no .no .no s14 s15 s16 (.sh d) (.sh (.bool (right0 d))))) := by
  cases d with
  | tuple xs =>
    have ht : dIs (.tuple xs) .tuple = true := rfl
    by_cases hl : xs.length = 2
    · match xs, hl with
      | [x, y], _ =>
        have e1 := SS_law_is_number x
        cases x with
        | int i =>
          have n1 : numB (.int i) = true := rfl
          rw [n1] at e1
          by_cases c : 0 < i
          · cases y with
            | tuple ys =>
              by_cases hy : ys.length = 2
              · match ys, hy with
                | [a, c'], _ => simp [law_B1_s0, eV, esc, escs, dIs, e1, c, right0, numB, asI]
              · have er : right0 (.tuple [.int i, .tuple ys]) = false := by
                  unfold right0
                  split
                  · rename_i x' a b e
                    have e2 : PyData.int i = x' ∧ ys = [a, b] := by simpa using e
                    rw [e2.2] at hy
                    exact absurd rfl hy
                  · rfl
                have hy2 : ¬ (ys.length : Int) = 2 := by omega
                rw [er]
                simp [law_B1_s0, eV, esc, escs, dIs, e1, c, hy2]
            | _ => simp [law_B1_s0, eV, esc, escs, dIs, e1, c, right0]
          · have er : right0 (.tuple [.int i, y]) = false := by
              unfold right0
              split
              · rename_i x' a b e
                obtain ⟨rfl, _⟩ : PyData.int i = x' ∧ y = .tuple [a, b] := by simpa using e
                simp [asI, c]
              · rfl
            rw [er]
            simp [law_B1_s0, eV, esc, escs, dIs, e1, c]
        | _ =>
          all_goals
            have er : ∀ z : D, numB z = false → right0 (.tuple [z, y]) = false := fun z hz => by
              unfold right0
              split
              · rename_i x' a b e
                obtain ⟨rfl, _⟩ : z = x' ∧ y = .tuple [a, b] := by simpa using e
                rw [hz, Bool.false_and]
              · rfl
            rw [er _ rfl]
            simp [law_B1_s0, eV, esc, escs, dIs, e1, numB]
    · have er : right0 (.tuple xs) = false := by
        unfold right0
        split
        · rename_i x' a b e
          have e2 : xs = [x', .tuple [a, b]] := by simpa using e
          rw [e2] at hl
          exact absurd rfl hl
        · rfl
      have hl2 : ¬ (xs.length : Int) = 2 := by omega
      rw [er]
      simp [law_B1_s0, eV, esc, escs, dIs, hl2]
  | list xs => simp [law_B1_s0, eV, esc, escs, dIs, right0]
  | none => simp [law_B1_s0, eV, esc, escs, dIs, right0]
  | _ => cases h
theorem thing_s1 {d : D} (h : okTh d = true) : ex optM C0 SS G0 law_B1_s1 (eV t s3 s4 s5 s6 .no s8 .no s10 .no .no .no s14 s15 s16 (.sh d) (.sh (.bool (right0 d)))) = some (.nx (eV t s3 s4 s5 s6 .no s8 .no s10 .no .no .no s14 s15 s16 (.sh d) (.sh (.bool (isbB d))))) := by
  by_cases q : right0 d = true
  · rw [q]
    unfold right0 at q
    split at q
    · rename_i x a c
      rw [Bool.and_eq_true, decide_eq_true_eq] at q
      obtain ⟨q1, q2⟩ := q
      have hac : okEl a = true ∧ okEl c = true := by
        unfold okTh at h
        simpa using h
      cases x with
      | int i =>
        have q2 : 0 < i := q2
        have q3 : 1 ≤ i := by omega
        have ea := SS_law_is_number a
        have ec := SS_law_is_number c
        have n1 : ∀ z : List D, z ≠ [] → (∀ y ∈ z, ∃ q, y = .bool q) → dCmp .eq (.list z) (.list []) = some false := fun z hz hb => by
          show (if (sh (.list z) && sh (.list [])) = true then some (PyData.eqv (.list z) (.list [])) else none) = _
          rw [if_pos]
          · cases z with
            | nil => exact absurd rfl hz
            | cons y ys => simp [PyData.eqv, PyData.eqvAll]
          · rw [Bool.and_eq_true]
            refine ⟨?_, rfl⟩
            show shal 20 (.list z) = true
            unfold shal
            refine List.all_eq_true.mpr fun y hy => ?_
            obtain ⟨q, rfl⟩ := hb y hy
            rfl
        have n0 : dCmp .eq (.list []) (.list []) = some true := rfl
        have eI : isbB (.tuple [.int i, .tuple [a, c]]) = (numB a && (numB c && (decide (0 ≤ asI a) && (decide (asI a < asI c) && decide (asI c ≤ i))))) := by
          show ((numB (.int i) && decide (1 ≤ i)) && _) = _
          rw [decide_eq_true q3]
          rfl
        rw [eI]
        cases a with
        | int a =>
          cases c with
          | int c =>
            simp only [numB, asI, Bool.true_and] at ea ec ⊢
            by_cases d1 : 0 ≤ a
            · by_cases d2 : a < c
              · by_cases d3 : c ≤ i <;> simp [law_B1_s1, eV, esc, escs, escS, compL, oStep, ea, ec, n0, d1, d2, d3]
              · simp [law_B1_s1, eV, esc, escs, escS, compL, oStep, ea, ec, n0, d1, d2]
            · simp [law_B1_s1, eV, esc, escs, escS, compL, oStep, ea, ec, n0, d1]
          | bool c =>
            have n2 := n1 [.bool c] (by simp) (by simp)
            simp [law_B1_s1, eV, esc, escs, escS, compL, oStep, ea, ec, numB, n2]
          | _ => simp [okEl] at hac
        | bool a =>
          cases c with
          | int c =>
            have n2 := n1 [.bool a] (by simp) (by simp)
            simp [law_B1_s1, eV, esc, escs, escS, compL, oStep, ea, ec, numB, n2]
          | bool c =>
            have n2 := n1 [.bool a, .bool c] (by simp) (by simp)
            simp [law_B1_s1, eV, esc, escs, escS, compL, oStep, ea, ec, numB, n2]
          | _ => simp [okEl] at hac
        | _ => simp [okEl] at hac
      | _ => cases q1
    · cases q
  · have q' : right0 d = false := by simpa using q
    have eb : isbB d = false := by
      unfold isbB
      split
      · rename_i x a c
        have : (numB x && decide (0 < asI x)) = false := q'
        have e2 : decide (1 ≤ asI x) = decide (0 < asI x) := decide_eq_decide.mpr (by omega)
        rw [e2, this, Bool.false_and]
      · rfl
    rw [q', eb]
    simp [law_B1_s1, eV, esc, escs, escS]
theorem thing_turn {d : D} (h : okTh d = true) : fBody C0 SS G0 (.nm 17) law_B1 d (eM t s3 s4 s5 s6 s8 s10 s14 s15 s16) = some (.nx (eV t s3 s4 s5 s6 .no s8 .no s10 .no .no .no s14 s15 s16 (.sh d) (.sh (.bool (isbB d))))) := by
  have e1 := thing_s0 (t := t) (s3 := s3) (s4 := s4) (s5 := s5) (s6 := s6) (s8 := s8) (s10 := s10) (s14 := s14) (s15 := s15) (s16 := s16) h
  have e2 := thing_s1 (t := t) (s3 := s3) (s4 := s4) (s5 := s5) (s6 := s6) (s8 := s8) (s10 := s10) (s14 := s14) (s15 := s15) (s16 := s16) h
  have e3 := SS_is_beam d
  have b1 := @beq_tt (isbB d)
  show (bindP (.nm 17) d _).bind _ = _
  rw [bp_nm]
  show exs optM C0 SS G0 law_B1 (eV t s3 s4 s5 s6 .no s8 .no s10 .no .no .no s14 s15 s16 (.sh d) .no) = _
  unfold law_B1
  rw [xs_cons, e1]
  show exs optM C0 SS G0 (.cons law_B1_s1 _) _ = _
  rw [xs_cons, e2]
  show exs optM C0 SS G0 (.cons law_B1_s2 _) _ = _
  generalize isbB d = q at e3 b1 ⊢
  simp [law_B1_s2, eV, esc, escs, e3, b1]
theorem things_ok : ∀ d ∈ bases b ++ mores b, okTh d = true := by
  intro d hd
  rcases List.mem_append.mp hd with hd | hd
  · simp only [bases, List.mem_cons, List.not_mem_nil, or_false] at hd
    rcases hd with rfl | rfl | rfl | rfl | rfl | rfl | rfl | rfl | rfl | rfl | rfl <;> rfl
  · simp only [mores, List.mem_cons, List.not_mem_nil, or_false] at hd
    rcases hd with rfl | rfl | rfl | rfl | rfl | rfl <;> rfl
theorem k19 (h : LB b l) : ∃ s16', ex optM C0 SS G0 law_B0_s19 (eM t (.sh (.int b.1)) s4 s5 s6 s8 s10 s14 s15 (.ow (.list (bases b)))) = some (.nx (eM t (.sh (.int b.1)) s4 s5 s6 s8 s10 s14 s15 s16')) := by
  refine ⟨.ow (.list (bases b)), ?_⟩
  have key := forL_fold (g := fBody C0 SS G0 (.nm 17) law_B1) (ρ0 := eM t (.sh (.int b.1)) s4 s5 s6 s8 s10 s14 s15 (.ow (.list (bases b)))) id (fun _ : Unit => eM t (.sh (.int b.1)) s4 s5 s6 s8 s10 s14 s15 (.ow (.list (bases b)))) (fun s _ => s) (fun _ xs => ∀ d ∈ xs, okTh d = true) (fun _ d xs hI => ⟨⟨_, thing_turn (hI d (by simp)), by simp [eV]⟩, fun y hy => hI y (by simp [hy])⟩) (bases b ++ mores b) () things_ok
  rw [List.map_id] at key
  have hl : (bases b).length + 6 ≤ LINE := by
    show 11 + 6 ≤ LINE
    decide
  have em : mores b = [.tuple [.int b.1, .tuple [.int (-1), .int 1]], .tuple [.int b.1, .tuple [.int 0, .int 0]], .tuple [.int b.1, .tuple [.int 0]], .tuple [.int b.1, .tuple [.bool false, .int 1]], .tuple [.int b.1, .none], .tuple [.int b.1, .tuple [.int 0, .int b.1]]] := rfl
  rw [em] at key
  generalize bases b = w at key hl ⊢
  simp only [eV] at key
  simp [law_B0_s19, eV, esc, escs, escF, hl, key]
end
end PW

set_option maxHeartbeats 4000000
/-! The beams: the draws, the law. -/
namespace PW
open PySem PySem.W PyProof.Rows L2 PV
def GG : Nat → List D → W D
  | 7 => gNext
  | _ => fun _ _ => False
abbrev FF : Nat → List D → W D := fun n ds => ofO (SS n ds)
@[simp] theorem GG_next {ds : List D} {Q : D → Prop} : GG id_law_next ds Q = gNext ds Q := rfl
theorem wf_cons {s : S} {r : Ss} {ρ ρ' : PV.Env} {R : Fl → Prop} (h : ex optM C0 SS G0 s ρ = some (.nx ρ')) (q : Wr (exs wM C0 FF GG r ρ' R)) : Wr (exs wM C0 FF GG (.cons s r) ρ R) := Wr.cons h q
def E0 : PV.Env := [.no, .no, .no, .no, .no, .no, .no, .no, .no, .no, .no, .no, .no, .no, .no, .no, .no, .no, .no, .no, .no, .no, .no]
section
variable {t : Int} {R' : Fl → Prop} {rest : Ss} {b : Bm} {l : Ld} {long one : Int}
variable {s3 s4 s5 s6 s8 s10 s14 s15 s16 : PV.Slot}
theorem w0 (h : ∀ long : Int, 1 ≤ long ∧ long ≤ 7 → Wr (exs wM C0 FF GG rest (eM t (.sh (.int long)) .no .no .no .no .no .no .no .no) R')) : Wr (exs wM C0 FF GG (.cons law_B0_s0 rest) (E0.set 2 (.sh (.int t))) R') := by
  rw [WXs_cons]
  unfold law_B0_s0
  rw [WX_asg]
  have ef : frz (esc false (.bin .add (.int 1) (.callw id_law_next (.cons (.int 7) .nil)))) (E0.set 2 (.sh (.int t))) = E0.set 2 (.sh (.int t)) := by simp [E0, esc, escs]
  rw [ef, W_bin, W_int, W_callw, Ws_cons, W_int, Ws_nil, GG_next]
  refine Wr.next (by decide) fun j j0 j1 => ?_
  refine Wr.ex (.int (1 + j)) rfl ?_
  rw [fl3_nx]
  exact h (1 + j) ⟨by omega, by omega⟩
theorem w1 (hl : 1 ≤ long ∧ long ≤ 7) (h : ∀ one : Int, 0 ≤ one ∧ one < long → Wr (exs wM C0 FF GG rest (eM t (.sh (.int long)) (.sh (.int one)) .no .no .no .no .no .no .no) R')) : Wr (exs wM C0 FF GG (.cons law_B0_s1 rest) (eM t (.sh (.int long)) .no .no .no .no .no .no .no .no) R') := by
  rw [WXs_cons]
  unfold law_B0_s1
  rw [WX_asg]
  have ef : frz (esc false (.callw id_law_next (.cons (.var 3) .nil))) (eM t (.sh (.int long)) .no .no .no .no .no .no .no .no) = eM t (.sh (.int long)) .no .no .no .no .no .no .no .no := by simp [eV, esc, escs]
  have g3 : getV (eM t (.sh (.int long)) .no .no .no .no .no .no .no .no) 3 = some (.int long) := rfl
  rw [ef, W_callw, Ws_cons, W_var]
  refine Wr.ex _ g3 ?_
  rw [Ws_nil, GG_next]
  refine Wr.next (by omega) fun j j0 j1 => ?_
  rw [fl3_nx]
  exact h j ⟨j0, j1⟩
theorem w2 (hl : 1 ≤ long ∧ long ≤ 7) (ho : 0 ≤ one ∧ one < long) (h : ∀ b : Bm, b.1 = long → 0 ≤ b.2.1 ∧ b.2.1 < b.2.2 ∧ b.2.2 ≤ b.1 → Wr (exs wM C0 FF GG rest (eM t (.sh (.int b.1)) (.sh (.int one)) (.sh (cBm.enc b)) .no .no .no .no .no .no) R')) : Wr (exs wM C0 FF GG (.cons law_B0_s2 rest) (eM t (.sh (.int long)) (.sh (.int one)) .no .no .no .no .no .no .no) R') := by
  rw [WXs_cons]
  unfold law_B0_s2
  rw [WX_asg]
  have ef : frz (esc false (.tup (.cons (.var 3) (.cons (.tup (.cons (.var 4) (.cons (.bin .add (.bin .add (.var 4) (.int 1)) (.callw id_law_next (.cons (.bin .sub (.var 3) (.var 4)) .nil))) .nil))) .nil)))) (eM t (.sh (.int long)) (.sh (.int one)) .no .no .no .no .no .no .no) = eM t (.sh (.int long)) (.sh (.int one)) .no .no .no .no .no .no .no := by simp [eV, esc, escs]
  have g3 : getV (eM t (.sh (.int long)) (.sh (.int one)) .no .no .no .no .no .no .no) 3 = some (.int long) := rfl
  have g4 : getV (eM t (.sh (.int long)) (.sh (.int one)) .no .no .no .no .no .no .no) 4 = some (.int one) := rfl
  rw [ef, W_tup, Ws_cons, W_var]
  refine Wr.ex _ g3 ?_
  rw [Ws_cons, W_tup, Ws_cons, W_var]
  refine Wr.ex _ g4 ?_
  rw [Ws_cons, W_bin, W_bin, W_var]
  refine Wr.ex _ g4 ?_
  rw [W_int]
  refine Wr.ex (.int (one + 1)) rfl ?_
  rw [W_callw, Ws_cons, W_bin, W_var]
  refine Wr.ex _ g3 ?_
  rw [W_var]
  refine Wr.ex _ g4 (Wr.ex (.int (long - one)) rfl ?_)
  rw [Ws_nil, GG_next]
  refine Wr.next (by omega) fun j j0 j1 => ?_
  refine Wr.ex (.int (one + 1 + j)) rfl ?_
  rw [Ws_nil, Ws_nil, fl3_nx]
  exact h (long, one, one + 1 + j) rfl ⟨ho.1, by simp only; omega, by simp only; omega⟩
theorem w3 (hl : 1 ≤ b.1 ∧ b.1 ≤ 7) (hp : 0 ≤ b.2.1 ∧ b.2.1 < b.2.2 ∧ b.2.2 ≤ b.1) (h : ∀ l : Ld, LB b l → Wr (exs wM C0 FF GG rest (eM t (.sh (.int b.1)) s4 (.sh (cBm.enc b)) (.sh (cLd.enc l)) .no .no .no .no .no) R')) : Wr (exs wM C0 FF GG (.cons law_B0_s3 rest) (eM t (.sh (.int b.1)) s4 (.sh (cBm.enc b)) .no .no .no .no .no .no) R') := by
  rw [WXs_cons]
  unfold law_B0_s3
  rw [WX_asg]
  have ef : ∀ x : D, frz (esc false (.bi .tuple (.comp [19] (.nm 19) (.r1 (.callw id_law_next (.cons (.int 5) .nil))) .yes (.tup (.cons (.callw id_law_next (.cons (.bin .add (.var 3) (.int 1)) .nil)) (.cons (.callw id_law_next (.cons (.int 7) .nil)) .nil)))))) (eM t (.sh (.int b.1)) s4 (.sh x) .no .no .no .no .no .no) = eM t (.sh (.int b.1)) s4 (.sh x) .no .no .no .no .no .no := fun x => by simp [eV, escS, esc, escs]
  have ew : ∀ x : D, wip [19] (eM t (.sh (.int b.1)) s4 (.sh x) .no .no .no .no .no .no) = eM t (.sh (.int b.1)) s4 (.sh x) .no .no .no .no .no .no := fun x => by simp [eV]
  have g3 : ∀ x y : D, getV ((eM t (.sh (.int b.1)) s4 (.sh x) .no .no .no .no .no .no).set 19 (.sh y)) 3 = some (.int b.1) := fun x y => rfl
  rw [ef, W_bi, W_comp, ew, WS_r1, W_callw, Ws_cons, W_int, Ws_nil, GG_next]
  refine Wr.next (by decide) fun m m0 m1 => ?_
  refine Wr.ex m rfl (Wr.and (by unfold okR LINE; exact decide_eq_true (by omega)) ?_)
  refine compL_R (fun i ys => ∃ u : Ld, ys = u.map cF.enc ∧ u.length = i ∧ ∀ z ∈ u, 0 ≤ z.1 ∧ z.1 ≤ b.1 ∧ 0 ≤ z.2 ∧ z.2 ≤ 6) (fun i x ys hxi hI R2 hR => ?_) ⟨[], rfl, rfl, by simp⟩ (fun zs hI => ?_)
  · have hI : ∃ u : Ld, ys = u.map cF.enc ∧ u.length = i ∧ ∀ z ∈ u, 0 ≤ z.1 ∧ z.1 ≤ b.1 ∧ 0 ≤ z.2 ∧ z.2 ≤ 6 := hI
    obtain ⟨u, e, hul, ha⟩ := hI
    rw [oStepW_yes (ρ' := (eM t (.sh (.int b.1)) s4 (.sh (cBm.enc b)) .no .no .no .no .no .no).set 19 (.sh x)) rfl, W_tup, Ws_cons, W_callw, Ws_cons, W_bin, W_var]
    refine Wr.ex _ (g3 _ _) ?_
    rw [W_int]
    refine Wr.ex (.int (b.1 + 1)) rfl ?_
    rw [Ws_nil, GG_next]
    refine Wr.next (by omega) fun p p0 p1 => ?_
    rw [Ws_cons, W_callw, Ws_cons, W_int, Ws_nil, GG_next]
    refine Wr.next (by decide) fun w w0 w1 => ?_
    rw [Ws_nil]
    refine hR _ ⟨u ++ [(p, w)], by rw [e, List.map_append]; rfl, by simp [hul], fun z hz => ?_⟩
    rcases List.mem_append.mp hz with hz | hz
    · exact ha z hz
    · rw [List.mem_singleton.mp hz]
      simp only
      omega
  · have hI : ∃ u : Ld, zs = u.map cF.enc ∧ u.length = (rng 0 m).length ∧ ∀ z ∈ u, 0 ≤ z.1 ∧ z.1 ≤ b.1 ∧ 0 ≤ z.2 ∧ z.2 ≤ 6 := hI
    obtain ⟨u, e, hul, ha⟩ := hI
    rw [rng_map, List.length_map, List.length_range] at hul
    subst e
    refine Wr.ex (cLd.enc u) rfl ?_
    rw [fl3_nx]
    exact h u ⟨hl, hp, by omega, ha⟩
theorem w7 (h : ∀ w : Int, 0 ≤ w ∧ w < 9 → Wr (exs wM C0 FF GG rest (eM t s3 s4 s5 s6 (.sh (.int w)) s10 s14 s15 s16) R')) : Wr (exs wM C0 FF GG (.cons law_B0_s7 rest) (eM t s3 s4 s5 s6 .no s10 s14 s15 s16) R') := by
  rw [WXs_cons]
  unfold law_B0_s7
  rw [WX_asg]
  have ef : frz (esc false (.callw id_law_next (.cons (.int 9) .nil))) (eM t s3 s4 s5 s6 .no s10 s14 s15 s16) = eM t s3 s4 s5 s6 .no s10 s14 s15 s16 := by simp [eV, esc, escs]
  rw [ef, W_callw, Ws_cons, W_int, Ws_nil, GG_next]
  refine Wr.next (by decide) fun j j0 j1 => ?_
  rw [fl3_nx]
  exact h j ⟨j0, j1⟩
end
theorem law_turn (t : Int) (R : Fl → Prop) (h : ∀ ρ', msk E0 ρ' = E0 → Wr (R (.nx ρ'))) : Wr (exs wM C0 FF GG law_B0 (E0.set 2 (.sh (.int t))) R) := by
  unfold law_B0
  refine w0 fun long hl => ?_
  refine w1 hl fun one ho => ?_
  refine w2 hl ho fun b hb hp => ?_
  have hl : 1 ≤ b.1 ∧ b.1 ≤ 7 := by omega
  refine w3 hl hp fun l hB => ?_
  refine wf_cons (k4 hB) (wf_cons (k5 hB) (wf_cons (k6 hB) ?_))
  refine w7 fun w hw => ?_
  refine wf_cons (k8 hB hw) (wf_cons (k9 hB) (wf_cons k10 (wf_cons (k11 hB) (wf_cons (k12 hB) (wf_cons (k13 hB) (wf_cons (k14 hB) (wf_cons (k15 hB) (wf_cons (k16 hB) (wf_cons (k17 hB) (wf_cons (k18 hB) ?_))))))))))
  obtain ⟨s16', h19⟩ := k19 (t := t) (s4 := .sh (.int one)) (s5 := .sh (cBm.enc b)) (s6 := .sh (cLd.enc l)) (s8 := .sh (.int w)) (s10 := .sh (bpD (bpP b.1 l))) (s14 := .ow (.list ((uniqS (l.map fun z => z.1)).map cInt.enc))) (s15 := .sh (.int (wS l))) hB
  refine wf_cons h19 ?_
  rw [WXs_nil]
  refine h _ ?_
  unfold E0 eM eV
  simp
theorem hlaw : exs wM C0 FF GG b_law (List.replicate n_law.length Slot.no) fun g => g = .rt (.bool true) := by
  refine Wr.out ?_
  unfold b_law
  rw [WXs_cons]
  unfold b_law_s0
  rw [WX_for, WS_r1, W_int]
  have ef : frz (escF (.r1 (.int 3))) (List.replicate n_law.length Slot.no) = E0 := rfl
  rw [ef]
  refine Wr.ex 3 rfl (Wr.and (by decide) ?_)
  refine forL_R (fun i ρ => ρ = E0) (fun i x ρ hx hI R hR => ?_) rfl (fun ρ' hI => ?_)
  · have hI : ρ = E0 := hI
    subst hI
    have hxx : ∃ k : Int, x = .int k := by
      have := List.mem_of_getElem? hx
      rw [rng_map] at this
      obtain ⟨k, _, e⟩ := List.mem_map.mp this
      exact ⟨_, e.symm⟩
    obtain ⟨k, e⟩ := hxx
    subst e
    rw [fBodyW_eq (ρ' := E0.set 2 (.sh (.int k))) rfl]
    exact law_turn k R hR
  · have hI : ρ' = E0 := hI
    subst hI
    unfold b_law_s1
    rw [fl3_nx, WXs_cons, WX_ret, W_bl, fl3_rt]
    exact Wr.mk rfl
end PW

set_option maxHeartbeats 4000000
/-! The table of the defs, the head. -/
namespace PW
open PySem PyProof.Rows L2 PV
structure All (K : PySem.W.Frag) (mg : Str → Option Value) : Prop where
  blt : ∀ x ∈ bltN, mg x = none
  a_is_number : Has K mg "is_number" s_is_number
  a_is_tuple_of : Has K mg "is_tuple_of" s_is_tuple_of
  a_common : Has K mg "common" s_common
  a_is_less : Has K mg "is_less" s_is_less
  a_joined_loads : Has K mg "joined_loads" s_joined_loads
  a_turned_beam : Has K mg "turned_beam" s_turned_beam
  a_law_draws : Has K mg "_law_draws" s_law_draws
  a_law_next : Has K mg "_law_next" s_law_next
  a_law_is_number : Has K mg "_law_is_number" s_law_is_number
  a_law_is_bit : Has K mg "_law_is_bit" s_law_is_bit
  a_law_common : Has K mg "_law_common" s_law_common
  a_law_below : Has K mg "_law_below" s_law_below
  a_law_lies : Has K mg "_law_lies" s_law_lies
  a_is_from : Has K mg "is_from" s_is_from
  a_fraction : Has K mg "fraction" s_fraction
  a_law_frac : Has K mg "_law_frac" s_law_frac
  a_minus : Has K mg "minus" s_minus
  a_times : Has K mg "times" s_times
  a_is_beam : Has K mg "is_beam" s_is_beam
  a_middle_of_loads : Has K mg "middle_of_loads" s_middle_of_loads
  a_law_add : Has K mg "_law_add" s_law_add
  a_law_less : Has K mg "_law_less" s_law_less
  a_law_mul : Has K mg "_law_mul" s_law_mul
  a_rests : Has K mg "rests" s_rests
  a_law_total : Has K mg "_law_total" s_law_total
  a_lies : Has K mg "lies" s_lies
  a_bends_at : Has K mg "bends_at" s_bends_at
  a_law_rests : Has K mg "_law_rests" s_law_rests
  a_worst_bend : Has K mg "worst_bend" s_worst_bend
  a_most_at : Has K mg "most_at" s_most_at
  a_safe_places : Has K mg "safe_places" s_safe_places
  a_law_bend : Has K mg "_law_bend" s_law_bend
  a_best_props : Has K mg "best_props" s_best_props
  a_law_worst : Has K mg "_law_worst" s_law_worst
  a_law : Has K mg "law" s_law
section
variable {PG : Program} {W0 : World} {K : PySem.W.Frag} {mg : Str → Option Value} {base : Heap}
theorem md_is_number (A : All K mg) : Md PG W0 K mg base ⟨C0, (fun n ds => ofO (SS n ds)), GG, none, 1000⟩ f_is_number g_is_number 0 where
  blt := A.blt
  fns := fun f x n b h => by cases h
  hws := fun f x n h => by cases h
  gls := fun n x h => by cases h
theorem d_is_number (A : All K mg) : DefOk PG W0 K mg base 1 "is_number" (spF 1 (fun ds => ofO (SS id_is_number ds)) K) :=
  mk_pure (ps := ["thing"]) A.a_is_number (fun _ _ _ _ _ _ us hl => match us, hl with | [_], _ => rfl) (md_is_number A) sc_is_number (by decide) c_is_number r_is_number
theorem md_is_tuple_of (A : All K mg) : Md PG W0 K mg base ⟨C0, (fun n ds => ofO (SS n ds)), GG, none, 1000⟩ f_is_tuple_of g_is_tuple_of 0 where
  blt := A.blt
  fns := fun f x n b h => by cases h
  hws := fun f x n h => by cases h
  gls := fun n x h => by cases h
theorem d_is_tuple_of (A : All K mg) : DefOk PG W0 K mg base 1 "is_tuple_of" (spF 2 (fun ds => ofO (SS id_is_tuple_of ds)) K) :=
  mk_pure (ps := ["thing", "many"]) A.a_is_tuple_of (fun _ _ _ _ _ _ us hl => match us, hl with | [_, _], _ => rfl) (md_is_tuple_of A) sc_is_tuple_of (by decide) c_is_tuple_of r_is_tuple_of
theorem md_common (A : All K mg) : Md PG W0 K mg base ⟨C0, (fun n ds => ofO (SS n ds)), GG, none, 1000⟩ f_common g_common 0 where
  blt := A.blt
  fns := fun f x n b h => by cases h
  hws := fun f x n h => by cases h
  gls := fun n x h => by cases h
theorem d_common (A : All K mg) : DefOk PG W0 K mg base 1 "common" (spF 2 (fun ds => ofO (SS id_common ds)) K) :=
  mk_pure (ps := ["a", "b"]) A.a_common (fun _ _ _ _ _ _ us hl => match us, hl with | [_, _], _ => rfl) (md_common A) sc_common (by decide) c_common r_common
theorem md_is_less (A : All K mg) : Md PG W0 K mg base ⟨C0, (fun n ds => ofO (SS n ds)), GG, none, 1000⟩ f_is_less g_is_less 0 where
  blt := A.blt
  fns := fun f x n b h => by cases h
  hws := fun f x n h => by cases h
  gls := fun n x h => by cases h
theorem d_is_less (A : All K mg) : DefOk PG W0 K mg base 1 "is_less" (spF 2 (fun ds => ofO (SS id_is_less ds)) K) :=
  mk_pure (ps := ["one", "other"]) A.a_is_less (fun _ _ _ _ _ _ us hl => match us, hl with | [_, _], _ => rfl) (md_is_less A) sc_is_less (by decide) c_is_less r_is_less
theorem md_joined_loads (A : All K mg) : Md PG W0 K mg base ⟨C0, (fun n ds => ofO (SS n ds)), GG, none, 1000⟩ f_joined_loads g_joined_loads 0 where
  blt := A.blt
  fns := fun f x n b h => by cases h
  hws := fun f x n h => by cases h
  gls := fun n x h => by cases h
theorem d_joined_loads (A : All K mg) : DefOk PG W0 K mg base 1 "joined_loads" (spF 1 (fun ds => ofO (SS id_joined_loads ds)) K) :=
  mk_pure (ps := ["loads"]) A.a_joined_loads (fun _ _ _ _ _ _ us hl => match us, hl with | [_], _ => rfl) (md_joined_loads A) sc_joined_loads (by decide) c_joined_loads r_joined_loads
theorem md_turned_beam (A : All K mg) : Md PG W0 K mg base ⟨C0, (fun n ds => ofO (SS n ds)), GG, none, 1000⟩ f_turned_beam g_turned_beam 0 where
  blt := A.blt
  fns := fun f x n b h => by cases h
  hws := fun f x n h => by cases h
  gls := fun n x h => by cases h
theorem d_turned_beam (A : All K mg) : DefOk PG W0 K mg base 1 "turned_beam" (spF 2 (fun ds => ofO (SS id_turned_beam ds)) K) :=
  mk_pure (ps := ["beam", "loads"]) A.a_turned_beam (fun _ _ _ _ _ _ us hl => match us, hl with | [_, _], _ => rfl) (md_turned_beam A) sc_turned_beam (by decide) c_turned_beam r_turned_beam
theorem d_law_next (A : All K mg) : DefOk PG W0 K mg base 1 "_law_next" (spG 2 (GG id_law_next) K) := by
  obtain ⟨a, fd, h1, h2, F⟩ := A.a_law_next
  exact ⟨a, fd, _, h1, h2, F.binds (fun _ _ _ _ _ _ us hl => match us, hl with | [_, _], _ => rfl), ok_next F sc_law_next rfl (by decide +kernel) (A.blt _ (by decide)) (A.blt _ (by decide))⟩
theorem md_law_is_number (A : All K mg) : Md PG W0 K mg base ⟨C0, (fun n ds => ofO (SS n ds)), GG, none, 1000⟩ f_law_is_number g_law_is_number 0 where
  blt := A.blt
  fns := fun f x n b h => by cases h
  hws := fun f x n h => by cases h
  gls := fun n x h => by cases h
theorem d_law_is_number (A : All K mg) : DefOk PG W0 K mg base 1 "_law_is_number" (spF 1 (fun ds => ofO (SS id_law_is_number ds)) K) :=
  mk_pure (ps := ["thing"]) A.a_law_is_number (fun _ _ _ _ _ _ us hl => match us, hl with | [_], _ => rfl) (md_law_is_number A) sc_law_is_number (by decide) c_law_is_number r_law_is_number
theorem md_law_is_bit (A : All K mg) : Md PG W0 K mg base ⟨C0, (fun n ds => ofO (SS n ds)), GG, none, 1000⟩ f_law_is_bit g_law_is_bit 0 where
  blt := A.blt
  fns := fun f x n b h => by cases h
  hws := fun f x n h => by cases h
  gls := fun n x h => by cases h
theorem d_law_is_bit (A : All K mg) : DefOk PG W0 K mg base 1 "_law_is_bit" (spF 2 (fun ds => ofO (SS id_law_is_bit ds)) K) :=
  mk_pure (ps := ["said", "due"]) A.a_law_is_bit (fun _ _ _ _ _ _ us hl => match us, hl with | [_, _], _ => rfl) (md_law_is_bit A) sc_law_is_bit (by decide) c_law_is_bit r_law_is_bit
theorem md_law_common (A : All K mg) : Md PG W0 K mg base ⟨C0, (fun n ds => ofO (SS n ds)), GG, none, 1000⟩ f_law_common g_law_common 0 where
  blt := A.blt
  fns := fun f x n b h => by cases h
  hws := fun f x n h => by cases h
  gls := fun n x h => by cases h
theorem d_law_common (A : All K mg) : DefOk PG W0 K mg base 1 "_law_common" (spF 2 (fun ds => ofO (SS id_law_common ds)) K) :=
  mk_pure (ps := ["a", "b"]) A.a_law_common (fun _ _ _ _ _ _ us hl => match us, hl with | [_, _], _ => rfl) (md_law_common A) sc_law_common (by decide) c_law_common r_law_common
theorem md_law_below (A : All K mg) : Md PG W0 K mg base ⟨C0, (fun n ds => ofO (SS n ds)), GG, none, 1000⟩ f_law_below g_law_below 0 where
  blt := A.blt
  fns := fun f x n b h => by cases h
  hws := fun f x n h => by cases h
  gls := fun n x h => by cases h
theorem d_law_below (A : All K mg) : DefOk PG W0 K mg base 1 "_law_below" (spF 2 (fun ds => ofO (SS id_law_below ds)) K) :=
  mk_pure (ps := ["one", "other"]) A.a_law_below (fun _ _ _ _ _ _ us hl => match us, hl with | [_, _], _ => rfl) (md_law_below A) sc_law_below (by decide) c_law_below r_law_below
theorem md_law_lies (A : All K mg) : Md PG W0 K mg base ⟨C0, (fun n ds => ofO (SS n ds)), GG, none, 1000⟩ f_law_lies g_law_lies 0 where
  blt := A.blt
  fns := fun f x n b h => by cases h
  hws := fun f x n h => by cases h
  gls := fun n x h => by cases h
theorem d_law_lies (A : All K mg) : DefOk PG W0 K mg base 1 "_law_lies" (spF 2 (fun ds => ofO (SS id_law_lies ds)) K) :=
  mk_pure (ps := ["beam", "loads"]) A.a_law_lies (fun _ _ _ _ _ _ us hl => match us, hl with | [_, _], _ => rfl) (md_law_lies A) sc_law_lies (by decide) c_law_lies r_law_lies
theorem md_is_from (A : All K mg) : Md PG W0 K mg base ⟨C0, (fun n ds => ofO (SS n ds)), GG, none, 1000⟩ f_is_from g_is_from 1 where
  blt := A.blt
  fns := by
    intro f x n b h
    simp only [f_is_from, List.mem_cons, List.not_mem_nil, or_false, Prod.mk.injEq] at h
    rcases h with ⟨rfl, rfl, rfl, rfl⟩
    · exact (d_is_number A).mono (by decide)
  hws := by
    intro f x n h
    simp [f_is_from] at h
  gls := fun n x h => by cases h
theorem d_is_from (A : All K mg) : DefOk PG W0 K mg base 2 "is_from" (spF 2 (fun ds => ofO (SS id_is_from ds)) K) :=
  mk_pure (ps := ["thing", "least"]) A.a_is_from (fun _ _ _ _ _ _ us hl => match us, hl with | [_, _], _ => rfl) (md_is_from A) sc_is_from (by decide) c_is_from r_is_from
theorem md_fraction (A : All K mg) : Md PG W0 K mg base ⟨C0, (fun n ds => ofO (SS n ds)), GG, none, 1000⟩ f_fraction g_fraction 1 where
  blt := A.blt
  fns := by
    intro f x n b h
    simp only [f_fraction, List.mem_cons, List.not_mem_nil, or_false, Prod.mk.injEq] at h
    rcases h with ⟨rfl, rfl, rfl, rfl⟩
    · exact (d_common A).mono (by decide)
  hws := by
    intro f x n h
    simp [f_fraction] at h
  gls := fun n x h => by cases h
theorem d_fraction (A : All K mg) : DefOk PG W0 K mg base 2 "fraction" (spF 2 (fun ds => ofO (SS id_fraction ds)) K) :=
  mk_pure (ps := ["a", "b"]) A.a_fraction (fun _ _ _ _ _ _ us hl => match us, hl with | [_, _], _ => rfl) (md_fraction A) sc_fraction (by decide) c_fraction r_fraction
theorem md_law_frac (A : All K mg) : Md PG W0 K mg base ⟨C0, (fun n ds => ofO (SS n ds)), GG, none, 1000⟩ f_law_frac g_law_frac 1 where
  blt := A.blt
  fns := by
    intro f x n b h
    simp only [f_law_frac, List.mem_cons, List.not_mem_nil, or_false, Prod.mk.injEq] at h
    rcases h with ⟨rfl, rfl, rfl, rfl⟩
    · exact (d_law_common A).mono (by decide)
  hws := by
    intro f x n h
    simp [f_law_frac] at h
  gls := fun n x h => by cases h
theorem d_law_frac (A : All K mg) : DefOk PG W0 K mg base 2 "_law_frac" (spF 2 (fun ds => ofO (SS id_law_frac ds)) K) :=
  mk_pure (ps := ["a", "b"]) A.a_law_frac (fun _ _ _ _ _ _ us hl => match us, hl with | [_, _], _ => rfl) (md_law_frac A) sc_law_frac (by decide) c_law_frac r_law_frac
theorem md_minus (A : All K mg) : Md PG W0 K mg base ⟨C0, (fun n ds => ofO (SS n ds)), GG, none, 1000⟩ f_minus g_minus 2 where
  blt := A.blt
  fns := by
    intro f x n b h
    simp only [f_minus, List.mem_cons, List.not_mem_nil, or_false, Prod.mk.injEq] at h
    rcases h with ⟨rfl, rfl, rfl, rfl⟩
    · exact (d_fraction A).mono (by decide)
  hws := by
    intro f x n h
    simp [f_minus] at h
  gls := fun n x h => by cases h
theorem d_minus (A : All K mg) : DefOk PG W0 K mg base 3 "minus" (spF 2 (fun ds => ofO (SS id_minus ds)) K) :=
  mk_pure (ps := ["one", "other"]) A.a_minus (fun _ _ _ _ _ _ us hl => match us, hl with | [_, _], _ => rfl) (md_minus A) sc_minus (by decide) c_minus r_minus
theorem md_times (A : All K mg) : Md PG W0 K mg base ⟨C0, (fun n ds => ofO (SS n ds)), GG, none, 1000⟩ f_times g_times 2 where
  blt := A.blt
  fns := by
    intro f x n b h
    simp only [f_times, List.mem_cons, List.not_mem_nil, or_false, Prod.mk.injEq] at h
    rcases h with ⟨rfl, rfl, rfl, rfl⟩
    · exact (d_fraction A).mono (by decide)
  hws := by
    intro f x n h
    simp [f_times] at h
  gls := fun n x h => by cases h
theorem d_times (A : All K mg) : DefOk PG W0 K mg base 3 "times" (spF 2 (fun ds => ofO (SS id_times ds)) K) :=
  mk_pure (ps := ["one", "other"]) A.a_times (fun _ _ _ _ _ _ us hl => match us, hl with | [_, _], _ => rfl) (md_times A) sc_times (by decide) c_times r_times
theorem md_is_beam (A : All K mg) : Md PG W0 K mg base ⟨C0, (fun n ds => ofO (SS n ds)), GG, none, 1000⟩ f_is_beam g_is_beam 2 where
  blt := A.blt
  fns := by
    intro f x n b h
    simp only [f_is_beam, List.mem_cons, List.not_mem_nil, or_false, Prod.mk.injEq] at h
    rcases h with ⟨rfl, rfl, rfl, rfl⟩ | ⟨rfl, rfl, rfl, rfl⟩ | ⟨rfl, rfl, rfl, rfl⟩
    · exact (d_is_number A).mono (by decide)
    · exact (d_is_tuple_of A).mono (by decide)
    · exact (d_is_from A).mono (by decide)
  hws := by
    intro f x n h
    simp [f_is_beam] at h
  gls := fun n x h => by cases h
theorem d_is_beam (A : All K mg) : DefOk PG W0 K mg base 3 "is_beam" (spF 1 (fun ds => ofO (SS id_is_beam ds)) K) :=
  mk_pure (ps := ["thing"]) A.a_is_beam (fun _ _ _ _ _ _ us hl => match us, hl with | [_], _ => rfl) (md_is_beam A) sc_is_beam (by decide) c_is_beam r_is_beam
theorem md_middle_of_loads (A : All K mg) : Md PG W0 K mg base ⟨C0, (fun n ds => ofO (SS n ds)), GG, none, 1000⟩ f_middle_of_loads g_middle_of_loads 2 where
  blt := A.blt
  fns := by
    intro f x n b h
    simp only [f_middle_of_loads, List.mem_cons, List.not_mem_nil, or_false, Prod.mk.injEq] at h
    rcases h with ⟨rfl, rfl, rfl, rfl⟩
    · exact (d_fraction A).mono (by decide)
  hws := by
    intro f x n h
    simp [f_middle_of_loads] at h
  gls := fun n x h => by cases h
theorem d_middle_of_loads (A : All K mg) : DefOk PG W0 K mg base 3 "middle_of_loads" (spF 1 (fun ds => ofO (SS id_middle_of_loads ds)) K) :=
  mk_pure (ps := ["loads"]) A.a_middle_of_loads (fun _ _ _ _ _ _ us hl => match us, hl with | [_], _ => rfl) (md_middle_of_loads A) sc_middle_of_loads (by decide) c_middle_of_loads r_middle_of_loads
theorem md_law_add (A : All K mg) : Md PG W0 K mg base ⟨C0, (fun n ds => ofO (SS n ds)), GG, none, 1000⟩ f_law_add g_law_add 2 where
  blt := A.blt
  fns := by
    intro f x n b h
    simp only [f_law_add, List.mem_cons, List.not_mem_nil, or_false, Prod.mk.injEq] at h
    rcases h with ⟨rfl, rfl, rfl, rfl⟩
    · exact (d_law_frac A).mono (by decide)
  hws := by
    intro f x n h
    simp [f_law_add] at h
  gls := fun n x h => by cases h
theorem d_law_add (A : All K mg) : DefOk PG W0 K mg base 3 "_law_add" (spF 2 (fun ds => ofO (SS id_law_add ds)) K) :=
  mk_pure (ps := ["one", "other"]) A.a_law_add (fun _ _ _ _ _ _ us hl => match us, hl with | [_, _], _ => rfl) (md_law_add A) sc_law_add (by decide) c_law_add r_law_add
theorem md_law_less (A : All K mg) : Md PG W0 K mg base ⟨C0, (fun n ds => ofO (SS n ds)), GG, none, 1000⟩ f_law_less g_law_less 2 where
  blt := A.blt
  fns := by
    intro f x n b h
    simp only [f_law_less, List.mem_cons, List.not_mem_nil, or_false, Prod.mk.injEq] at h
    rcases h with ⟨rfl, rfl, rfl, rfl⟩
    · exact (d_law_frac A).mono (by decide)
  hws := by
    intro f x n h
    simp [f_law_less] at h
  gls := fun n x h => by cases h
theorem d_law_less (A : All K mg) : DefOk PG W0 K mg base 3 "_law_less" (spF 2 (fun ds => ofO (SS id_law_less ds)) K) :=
  mk_pure (ps := ["one", "other"]) A.a_law_less (fun _ _ _ _ _ _ us hl => match us, hl with | [_, _], _ => rfl) (md_law_less A) sc_law_less (by decide) c_law_less r_law_less
theorem md_law_mul (A : All K mg) : Md PG W0 K mg base ⟨C0, (fun n ds => ofO (SS n ds)), GG, none, 1000⟩ f_law_mul g_law_mul 2 where
  blt := A.blt
  fns := by
    intro f x n b h
    simp only [f_law_mul, List.mem_cons, List.not_mem_nil, or_false, Prod.mk.injEq] at h
    rcases h with ⟨rfl, rfl, rfl, rfl⟩
    · exact (d_law_frac A).mono (by decide)
  hws := by
    intro f x n h
    simp [f_law_mul] at h
  gls := fun n x h => by cases h
theorem d_law_mul (A : All K mg) : DefOk PG W0 K mg base 3 "_law_mul" (spF 2 (fun ds => ofO (SS id_law_mul ds)) K) :=
  mk_pure (ps := ["one", "other"]) A.a_law_mul (fun _ _ _ _ _ _ us hl => match us, hl with | [_, _], _ => rfl) (md_law_mul A) sc_law_mul (by decide) c_law_mul r_law_mul
theorem md_rests (A : All K mg) : Md PG W0 K mg base ⟨C0, (fun n ds => ofO (SS n ds)), GG, none, 1000⟩ f_rests g_rests 3 where
  blt := A.blt
  fns := by
    intro f x n b h
    simp only [f_rests, List.mem_cons, List.not_mem_nil, or_false, Prod.mk.injEq] at h
    rcases h with ⟨rfl, rfl, rfl, rfl⟩ | ⟨rfl, rfl, rfl, rfl⟩
    · exact (d_fraction A).mono (by decide)
    · exact (d_minus A).mono (by decide)
  hws := by
    intro f x n h
    simp [f_rests] at h
  gls := fun n x h => by cases h
theorem d_rests (A : All K mg) : DefOk PG W0 K mg base 4 "rests" (spF 2 (fun ds => ofO (SS id_rests ds)) K) :=
  mk_pure (ps := ["beam", "loads"]) A.a_rests (fun _ _ _ _ _ _ us hl => match us, hl with | [_, _], _ => rfl) (md_rests A) sc_rests (by decide) c_rests r_rests
theorem md_law_total (A : All K mg) : Md PG W0 K mg base ⟨C0, (fun n ds => ofO (SS n ds)), GG, none, 1000⟩ f_law_total g_law_total 3 where
  blt := A.blt
  fns := by
    intro f x n b h
    simp only [f_law_total, List.mem_cons, List.not_mem_nil, or_false, Prod.mk.injEq] at h
    rcases h with ⟨rfl, rfl, rfl, rfl⟩
    · exact (d_law_add A).mono (by decide)
  hws := by
    intro f x n h
    simp [f_law_total] at h
  gls := fun n x h => by cases h
theorem d_law_total (A : All K mg) : DefOk PG W0 K mg base 4 "_law_total" (spF 1 (fun ds => ofO (SS id_law_total ds)) K) :=
  mk_pure (ps := ["rows"]) A.a_law_total (fun _ _ _ _ _ _ us hl => match us, hl with | [_], _ => rfl) (md_law_total A) sc_law_total (by decide) c_law_total r_law_total
theorem md_lies (A : All K mg) : Md PG W0 K mg base ⟨C0, (fun n ds => ofO (SS n ds)), GG, none, 1000⟩ f_lies g_lies 4 where
  blt := A.blt
  fns := by
    intro f x n b h
    simp only [f_lies, List.mem_cons, List.not_mem_nil, or_false, Prod.mk.injEq] at h
    rcases h with ⟨rfl, rfl, rfl, rfl⟩
    · exact (d_rests A).mono (by decide)
  hws := by
    intro f x n h
    simp [f_lies] at h
  gls := fun n x h => by cases h
theorem d_lies (A : All K mg) : DefOk PG W0 K mg base 5 "lies" (spF 2 (fun ds => ofO (SS id_lies ds)) K) :=
  mk_pure (ps := ["beam", "loads"]) A.a_lies (fun _ _ _ _ _ _ us hl => match us, hl with | [_, _], _ => rfl) (md_lies A) sc_lies (by decide) c_lies r_lies
theorem md_bends_at (A : All K mg) : Md PG W0 K mg base ⟨C0, (fun n ds => ofO (SS n ds)), GG, none, 1000⟩ f_bends_at g_bends_at 4 where
  blt := A.blt
  fns := by
    intro f x n b h
    simp only [f_bends_at, List.mem_cons, List.not_mem_nil, or_false, Prod.mk.injEq] at h
    rcases h with ⟨rfl, rfl, rfl, rfl⟩ | ⟨rfl, rfl, rfl, rfl⟩ | ⟨rfl, rfl, rfl, rfl⟩
    · exact (d_minus A).mono (by decide)
    · exact (d_times A).mono (by decide)
    · exact (d_rests A).mono (by decide)
  hws := by
    intro f x n h
    simp [f_bends_at] at h
  gls := fun n x h => by cases h
theorem d_bends_at (A : All K mg) : DefOk PG W0 K mg base 5 "bends_at" (spF 3 (fun ds => ofO (SS id_bends_at ds)) K) :=
  mk_pure (ps := ["beam", "loads", "place"]) A.a_bends_at (fun _ _ _ _ _ _ us hl => match us, hl with | [_, _, _], _ => rfl) (md_bends_at A) sc_bends_at (by decide) c_bends_at r_bends_at
theorem md_law_rests (A : All K mg) : Md PG W0 K mg base ⟨C0, (fun n ds => ofO (SS n ds)), GG, none, 1000⟩ f_law_rests g_law_rests 4 where
  blt := A.blt
  fns := by
    intro f x n b h
    simp only [f_law_rests, List.mem_cons, List.not_mem_nil, or_false, Prod.mk.injEq] at h
    rcases h with ⟨rfl, rfl, rfl, rfl⟩ | ⟨rfl, rfl, rfl, rfl⟩ | ⟨rfl, rfl, rfl, rfl⟩
    · exact (d_law_frac A).mono (by decide)
    · exact (d_law_less A).mono (by decide)
    · exact (d_law_total A).mono (by decide)
  hws := by
    intro f x n h
    simp [f_law_rests] at h
  gls := fun n x h => by cases h
theorem d_law_rests (A : All K mg) : DefOk PG W0 K mg base 5 "_law_rests" (spF 2 (fun ds => ofO (SS id_law_rests ds)) K) :=
  mk_pure (ps := ["beam", "loads"]) A.a_law_rests (fun _ _ _ _ _ _ us hl => match us, hl with | [_, _], _ => rfl) (md_law_rests A) sc_law_rests (by decide) c_law_rests r_law_rests
theorem md_worst_bend (A : All K mg) : Md PG W0 K mg base ⟨C0, (fun n ds => ofO (SS n ds)), GG, none, 1000⟩ f_worst_bend g_worst_bend 5 where
  blt := A.blt
  fns := by
    intro f x n b h
    simp only [f_worst_bend, List.mem_cons, List.not_mem_nil, or_false, Prod.mk.injEq] at h
    rcases h with ⟨rfl, rfl, rfl, rfl⟩ | ⟨rfl, rfl, rfl, rfl⟩
    · exact (d_is_less A).mono (by decide)
    · exact (d_bends_at A).mono (by decide)
  hws := by
    intro f x n h
    simp [f_worst_bend] at h
  gls := fun n x h => by cases h
theorem d_worst_bend (A : All K mg) : DefOk PG W0 K mg base 6 "worst_bend" (spF 2 (fun ds => ofO (SS id_worst_bend ds)) K) :=
  mk_pure (ps := ["beam", "loads"]) A.a_worst_bend (fun _ _ _ _ _ _ us hl => match us, hl with | [_, _], _ => rfl) (md_worst_bend A) sc_worst_bend (by decide) c_worst_bend r_worst_bend
theorem md_most_at (A : All K mg) : Md PG W0 K mg base ⟨C0, (fun n ds => ofO (SS n ds)), GG, none, 1000⟩ f_most_at g_most_at 5 where
  blt := A.blt
  fns := by
    intro f x n b h
    simp only [f_most_at, List.mem_cons, List.not_mem_nil, or_false, Prod.mk.injEq] at h
    rcases h with ⟨rfl, rfl, rfl, rfl⟩
    · exact (d_lies A).mono (by decide)
  hws := by
    intro f x n h
    simp [f_most_at] at h
  gls := fun n x h => by cases h
theorem d_most_at (A : All K mg) : DefOk PG W0 K mg base 6 "most_at" (spF 3 (fun ds => ofO (SS id_most_at ds)) K) :=
  mk_pure (ps := ["beam", "loads", "place"]) A.a_most_at (fun _ _ _ _ _ _ us hl => match us, hl with | [_, _, _], _ => rfl) (md_most_at A) sc_most_at (by decide) c_most_at r_most_at
theorem md_safe_places (A : All K mg) : Md PG W0 K mg base ⟨C0, (fun n ds => ofO (SS n ds)), GG, none, 1000⟩ f_safe_places g_safe_places 5 where
  blt := A.blt
  fns := by
    intro f x n b h
    simp only [f_safe_places, List.mem_cons, List.not_mem_nil, or_false, Prod.mk.injEq] at h
    rcases h with ⟨rfl, rfl, rfl, rfl⟩
    · exact (d_lies A).mono (by decide)
  hws := by
    intro f x n h
    simp [f_safe_places] at h
  gls := fun n x h => by cases h
theorem d_safe_places (A : All K mg) : DefOk PG W0 K mg base 6 "safe_places" (spF 3 (fun ds => ofO (SS id_safe_places ds)) K) :=
  mk_pure (ps := ["beam", "loads", "weight"]) A.a_safe_places (fun _ _ _ _ _ _ us hl => match us, hl with | [_, _, _], _ => rfl) (md_safe_places A) sc_safe_places (by decide) c_safe_places r_safe_places
theorem md_law_bend (A : All K mg) : Md PG W0 K mg base ⟨C0, (fun n ds => ofO (SS n ds)), GG, none, 1000⟩ f_law_bend g_law_bend 5 where
  blt := A.blt
  fns := by
    intro f x n b h
    simp only [f_law_bend, List.mem_cons, List.not_mem_nil, or_false, Prod.mk.injEq] at h
    rcases h with ⟨rfl, rfl, rfl, rfl⟩ | ⟨rfl, rfl, rfl, rfl⟩ | ⟨rfl, rfl, rfl, rfl⟩ | ⟨rfl, rfl, rfl, rfl⟩
    · exact (d_law_add A).mono (by decide)
    · exact (d_law_less A).mono (by decide)
    · exact (d_law_mul A).mono (by decide)
    · exact (d_law_rests A).mono (by decide)
  hws := by
    intro f x n h
    simp [f_law_bend] at h
  gls := fun n x h => by cases h
theorem d_law_bend (A : All K mg) : DefOk PG W0 K mg base 6 "_law_bend" (spF 3 (fun ds => ofO (SS id_law_bend ds)) K) :=
  mk_pure (ps := ["beam", "loads", "place"]) A.a_law_bend (fun _ _ _ _ _ _ us hl => match us, hl with | [_, _, _], _ => rfl) (md_law_bend A) sc_law_bend (by decide) c_law_bend r_law_bend
theorem md_best_props (A : All K mg) : Md PG W0 K mg base ⟨C0, (fun n ds => ofO (SS n ds)), GG, none, 1000⟩ f_best_props g_best_props 6 where
  blt := A.blt
  fns := by
    intro f x n b h
    simp only [f_best_props, List.mem_cons, List.not_mem_nil, or_false, Prod.mk.injEq] at h
    rcases h with ⟨rfl, rfl, rfl, rfl⟩ | ⟨rfl, rfl, rfl, rfl⟩ | ⟨rfl, rfl, rfl, rfl⟩
    · exact (d_is_less A).mono (by decide)
    · exact (d_lies A).mono (by decide)
    · exact (d_worst_bend A).mono (by decide)
  hws := by
    intro f x n h
    simp [f_best_props] at h
  gls := fun n x h => by cases h
theorem d_best_props (A : All K mg) : DefOk PG W0 K mg base 7 "best_props" (spF 2 (fun ds => ofO (SS id_best_props ds)) K) :=
  mk_pure (ps := ["long", "loads"]) A.a_best_props (fun _ _ _ _ _ _ us hl => match us, hl with | [_, _], _ => rfl) (md_best_props A) sc_best_props (by decide) c_best_props r_best_props
theorem md_law_worst (A : All K mg) : Md PG W0 K mg base ⟨C0, (fun n ds => ofO (SS n ds)), GG, none, 1000⟩ f_law_worst g_law_worst 6 where
  blt := A.blt
  fns := by
    intro f x n b h
    simp only [f_law_worst, List.mem_cons, List.not_mem_nil, or_false, Prod.mk.injEq] at h
    rcases h with ⟨rfl, rfl, rfl, rfl⟩ | ⟨rfl, rfl, rfl, rfl⟩
    · exact (d_law_below A).mono (by decide)
    · exact (d_law_bend A).mono (by decide)
  hws := by
    intro f x n h
    simp [f_law_worst] at h
  gls := fun n x h => by cases h
theorem d_law_worst (A : All K mg) : DefOk PG W0 K mg base 7 "_law_worst" (spF 2 (fun ds => ofO (SS id_law_worst ds)) K) :=
  mk_pure (ps := ["beam", "loads"]) A.a_law_worst (fun _ _ _ _ _ _ us hl => match us, hl with | [_, _], _ => rfl) (md_law_worst A) sc_law_worst (by decide) c_law_worst r_law_worst
theorem md_law (A : All K mg) (t : Addr × Addr × List Int) : Md PG W0 K mg base ⟨C0, (fun n ds => ofO (SS n ds)), GG, some t, 1⟩ f_law g_law 7 where
  blt := A.blt
  fns := by
    intro f x n b h
    simp only [f_law, List.mem_cons, List.not_mem_nil, or_false, Prod.mk.injEq] at h
    rcases h with ⟨rfl, rfl, rfl, rfl⟩ | ⟨rfl, rfl, rfl, rfl⟩ | ⟨rfl, rfl, rfl, rfl⟩ | ⟨rfl, rfl, rfl, rfl⟩ | ⟨rfl, rfl, rfl, rfl⟩ | ⟨rfl, rfl, rfl, rfl⟩ | ⟨rfl, rfl, rfl, rfl⟩ | ⟨rfl, rfl, rfl, rfl⟩ | ⟨rfl, rfl, rfl, rfl⟩ | ⟨rfl, rfl, rfl, rfl⟩ | ⟨rfl, rfl, rfl, rfl⟩ | ⟨rfl, rfl, rfl, rfl⟩ | ⟨rfl, rfl, rfl, rfl⟩ | ⟨rfl, rfl, rfl, rfl⟩ | ⟨rfl, rfl, rfl, rfl⟩ | ⟨rfl, rfl, rfl, rfl⟩ | ⟨rfl, rfl, rfl, rfl⟩ | ⟨rfl, rfl, rfl, rfl⟩ | ⟨rfl, rfl, rfl, rfl⟩ | ⟨rfl, rfl, rfl, rfl⟩
    · exact (d_joined_loads A).mono (by decide)
    · exact (d_turned_beam A).mono (by decide)
    · exact (d_law_next A).mono (by decide)
    · exact (d_law_is_number A).mono (by decide)
    · exact (d_law_is_bit A).mono (by decide)
    · exact (d_law_below A).mono (by decide)
    · exact (d_law_lies A).mono (by decide)
    · exact (d_law_frac A).mono (by decide)
    · exact (d_is_beam A).mono (by decide)
    · exact (d_middle_of_loads A).mono (by decide)
    · exact (d_rests A).mono (by decide)
    · exact (d_lies A).mono (by decide)
    · exact (d_bends_at A).mono (by decide)
    · exact (d_law_rests A).mono (by decide)
    · exact (d_worst_bend A).mono (by decide)
    · exact (d_most_at A).mono (by decide)
    · exact (d_safe_places A).mono (by decide)
    · exact (d_law_bend A).mono (by decide)
    · exact (d_best_props A).mono (by decide)
    · exact (d_law_worst A).mono (by decide)
  hws := fun _ _ _ _ => rfl
  gls := fun n x h => by cases h
theorem k_law (A : All K mg) {f : Addr} {fd : FuncData} (F : Fun K "law" "law" s_law f fd) : FnOk PG W0 K mg base CX0 8 f fd ["script"] (spLaw K) := by
  obtain ⟨a, fad, h1, h2, Fd⟩ := A.a_law_draws
  have ok := ok_draws (PG := PG) (W0 := W0) (base := base) (k := 0) (m := "mixed") Fd sc_law_draws rfl (by decide +kernel) (by decide +kernel) (by decide +kernel) (by decide +kernel) A.blt
  exact ok_law (fun t => md_law A t) F sc_law rfl rfl ⟨by decide, by decide⟩ rfl (by decide +kernel) c_law h1 h2 (Fd.binds (fun _ _ _ _ _ _ us hl => match us, hl with | [_, _], _ => rfl)) (ok.mono (by decide)) hlaw
end
theorem all_mk {l : PySem.W.OpenLaw} {w : World} {K : PySem.W.Frag} {h : Heap} {mg : Str → Option Value} {fa : Addr} (X : K.In h) (G : h.Ns mainGlobals mg) (hfa : mg "law" = some (.ref fa))
    {f0 : Addr} {od0 an0 : Option Addr} {sl0 : Array (Option Value)} {oc0 kV0 dc0 pm0 cd0 ct0 : Value} (a0 : PySem.W.nsIn K mainGlobals "is_number" = some (some (.ref f0))) (l0 : K.lookup f0 = some ⟨oc0, od0, .func (PySem.W.fnOf "is_number" "is_number" (defArgs s_is_number) (defBody s_is_number) (defScope s_is_number) .none kV0 dc0 pm0 an0 cd0 ct0), sl0⟩) (c0 : PySem.W.codeIn K cd0 "is_number" = true) (k0 : PySem.W.keepIn K (.ref f0) = true)
    {f1 : Addr} {od1 an1 : Option Addr} {sl1 : Array (Option Value)} {oc1 kV1 dc1 pm1 cd1 ct1 : Value} (a1 : PySem.W.nsIn K mainGlobals "is_tuple_of" = some (some (.ref f1))) (l1 : K.lookup f1 = some ⟨oc1, od1, .func (PySem.W.fnOf "is_tuple_of" "is_tuple_of" (defArgs s_is_tuple_of) (defBody s_is_tuple_of) (defScope s_is_tuple_of) .none kV1 dc1 pm1 an1 cd1 ct1), sl1⟩) (c1 : PySem.W.codeIn K cd1 "is_tuple_of" = true) (k1 : PySem.W.keepIn K (.ref f1) = true)
    {f2 : Addr} {od2 an2 : Option Addr} {sl2 : Array (Option Value)} {oc2 kV2 dc2 pm2 cd2 ct2 : Value} (a2 : PySem.W.nsIn K mainGlobals "common" = some (some (.ref f2))) (l2 : K.lookup f2 = some ⟨oc2, od2, .func (PySem.W.fnOf "common" "common" (defArgs s_common) (defBody s_common) (defScope s_common) .none kV2 dc2 pm2 an2 cd2 ct2), sl2⟩) (c2 : PySem.W.codeIn K cd2 "common" = true) (k2 : PySem.W.keepIn K (.ref f2) = true)
    {f3 : Addr} {od3 an3 : Option Addr} {sl3 : Array (Option Value)} {oc3 kV3 dc3 pm3 cd3 ct3 : Value} (a3 : PySem.W.nsIn K mainGlobals "is_less" = some (some (.ref f3))) (l3 : K.lookup f3 = some ⟨oc3, od3, .func (PySem.W.fnOf "is_less" "is_less" (defArgs s_is_less) (defBody s_is_less) (defScope s_is_less) .none kV3 dc3 pm3 an3 cd3 ct3), sl3⟩) (c3 : PySem.W.codeIn K cd3 "is_less" = true) (k3 : PySem.W.keepIn K (.ref f3) = true)
    {f4 : Addr} {od4 an4 : Option Addr} {sl4 : Array (Option Value)} {oc4 kV4 dc4 pm4 cd4 ct4 : Value} (a4 : PySem.W.nsIn K mainGlobals "joined_loads" = some (some (.ref f4))) (l4 : K.lookup f4 = some ⟨oc4, od4, .func (PySem.W.fnOf "joined_loads" "joined_loads" (defArgs s_joined_loads) (defBody s_joined_loads) (defScope s_joined_loads) .none kV4 dc4 pm4 an4 cd4 ct4), sl4⟩) (c4 : PySem.W.codeIn K cd4 "joined_loads" = true) (k4 : PySem.W.keepIn K (.ref f4) = true)
    {f5 : Addr} {od5 an5 : Option Addr} {sl5 : Array (Option Value)} {oc5 kV5 dc5 pm5 cd5 ct5 : Value} (a5 : PySem.W.nsIn K mainGlobals "turned_beam" = some (some (.ref f5))) (l5 : K.lookup f5 = some ⟨oc5, od5, .func (PySem.W.fnOf "turned_beam" "turned_beam" (defArgs s_turned_beam) (defBody s_turned_beam) (defScope s_turned_beam) .none kV5 dc5 pm5 an5 cd5 ct5), sl5⟩) (c5 : PySem.W.codeIn K cd5 "turned_beam" = true) (k5 : PySem.W.keepIn K (.ref f5) = true)
    {f6 : Addr} {od6 an6 : Option Addr} {sl6 : Array (Option Value)} {oc6 kV6 dc6 pm6 cd6 ct6 : Value} (a6 : PySem.W.nsIn K mainGlobals "_law_draws" = some (some (.ref f6))) (l6 : K.lookup f6 = some ⟨oc6, od6, .func (PySem.W.fnOf "_law_draws" "_law_draws" (defArgs s_law_draws) (defBody s_law_draws) (defScope s_law_draws) .none kV6 dc6 pm6 an6 cd6 ct6), sl6⟩) (c6 : PySem.W.codeIn K cd6 "_law_draws" = true) (k6 : PySem.W.keepIn K (.ref f6) = true)
    {f7 : Addr} {od7 an7 : Option Addr} {sl7 : Array (Option Value)} {oc7 kV7 dc7 pm7 cd7 ct7 : Value} (a7 : PySem.W.nsIn K mainGlobals "_law_next" = some (some (.ref f7))) (l7 : K.lookup f7 = some ⟨oc7, od7, .func (PySem.W.fnOf "_law_next" "_law_next" (defArgs s_law_next) (defBody s_law_next) (defScope s_law_next) .none kV7 dc7 pm7 an7 cd7 ct7), sl7⟩) (c7 : PySem.W.codeIn K cd7 "_law_next" = true) (k7 : PySem.W.keepIn K (.ref f7) = true)
    {f8 : Addr} {od8 an8 : Option Addr} {sl8 : Array (Option Value)} {oc8 kV8 dc8 pm8 cd8 ct8 : Value} (a8 : PySem.W.nsIn K mainGlobals "_law_is_number" = some (some (.ref f8))) (l8 : K.lookup f8 = some ⟨oc8, od8, .func (PySem.W.fnOf "_law_is_number" "_law_is_number" (defArgs s_law_is_number) (defBody s_law_is_number) (defScope s_law_is_number) .none kV8 dc8 pm8 an8 cd8 ct8), sl8⟩) (c8 : PySem.W.codeIn K cd8 "_law_is_number" = true) (k8 : PySem.W.keepIn K (.ref f8) = true)
    {f9 : Addr} {od9 an9 : Option Addr} {sl9 : Array (Option Value)} {oc9 kV9 dc9 pm9 cd9 ct9 : Value} (a9 : PySem.W.nsIn K mainGlobals "_law_is_bit" = some (some (.ref f9))) (l9 : K.lookup f9 = some ⟨oc9, od9, .func (PySem.W.fnOf "_law_is_bit" "_law_is_bit" (defArgs s_law_is_bit) (defBody s_law_is_bit) (defScope s_law_is_bit) .none kV9 dc9 pm9 an9 cd9 ct9), sl9⟩) (c9 : PySem.W.codeIn K cd9 "_law_is_bit" = true) (k9 : PySem.W.keepIn K (.ref f9) = true)
    {f10 : Addr} {od10 an10 : Option Addr} {sl10 : Array (Option Value)} {oc10 kV10 dc10 pm10 cd10 ct10 : Value} (a10 : PySem.W.nsIn K mainGlobals "_law_common" = some (some (.ref f10))) (l10 : K.lookup f10 = some ⟨oc10, od10, .func (PySem.W.fnOf "_law_common" "_law_common" (defArgs s_law_common) (defBody s_law_common) (defScope s_law_common) .none kV10 dc10 pm10 an10 cd10 ct10), sl10⟩) (c10 : PySem.W.codeIn K cd10 "_law_common" = true) (k10 : PySem.W.keepIn K (.ref f10) = true)
    {f11 : Addr} {od11 an11 : Option Addr} {sl11 : Array (Option Value)} {oc11 kV11 dc11 pm11 cd11 ct11 : Value} (a11 : PySem.W.nsIn K mainGlobals "_law_below" = some (some (.ref f11))) (l11 : K.lookup f11 = some ⟨oc11, od11, .func (PySem.W.fnOf "_law_below" "_law_below" (defArgs s_law_below) (defBody s_law_below) (defScope s_law_below) .none kV11 dc11 pm11 an11 cd11 ct11), sl11⟩) (c11 : PySem.W.codeIn K cd11 "_law_below" = true) (k11 : PySem.W.keepIn K (.ref f11) = true)
    {f12 : Addr} {od12 an12 : Option Addr} {sl12 : Array (Option Value)} {oc12 kV12 dc12 pm12 cd12 ct12 : Value} (a12 : PySem.W.nsIn K mainGlobals "_law_lies" = some (some (.ref f12))) (l12 : K.lookup f12 = some ⟨oc12, od12, .func (PySem.W.fnOf "_law_lies" "_law_lies" (defArgs s_law_lies) (defBody s_law_lies) (defScope s_law_lies) .none kV12 dc12 pm12 an12 cd12 ct12), sl12⟩) (c12 : PySem.W.codeIn K cd12 "_law_lies" = true) (k12 : PySem.W.keepIn K (.ref f12) = true)
    {f13 : Addr} {od13 an13 : Option Addr} {sl13 : Array (Option Value)} {oc13 kV13 dc13 pm13 cd13 ct13 : Value} (a13 : PySem.W.nsIn K mainGlobals "is_from" = some (some (.ref f13))) (l13 : K.lookup f13 = some ⟨oc13, od13, .func (PySem.W.fnOf "is_from" "is_from" (defArgs s_is_from) (defBody s_is_from) (defScope s_is_from) .none kV13 dc13 pm13 an13 cd13 ct13), sl13⟩) (c13 : PySem.W.codeIn K cd13 "is_from" = true) (k13 : PySem.W.keepIn K (.ref f13) = true)
    {f14 : Addr} {od14 an14 : Option Addr} {sl14 : Array (Option Value)} {oc14 kV14 dc14 pm14 cd14 ct14 : Value} (a14 : PySem.W.nsIn K mainGlobals "fraction" = some (some (.ref f14))) (l14 : K.lookup f14 = some ⟨oc14, od14, .func (PySem.W.fnOf "fraction" "fraction" (defArgs s_fraction) (defBody s_fraction) (defScope s_fraction) .none kV14 dc14 pm14 an14 cd14 ct14), sl14⟩) (c14 : PySem.W.codeIn K cd14 "fraction" = true) (k14 : PySem.W.keepIn K (.ref f14) = true)
    {f15 : Addr} {od15 an15 : Option Addr} {sl15 : Array (Option Value)} {oc15 kV15 dc15 pm15 cd15 ct15 : Value} (a15 : PySem.W.nsIn K mainGlobals "_law_frac" = some (some (.ref f15))) (l15 : K.lookup f15 = some ⟨oc15, od15, .func (PySem.W.fnOf "_law_frac" "_law_frac" (defArgs s_law_frac) (defBody s_law_frac) (defScope s_law_frac) .none kV15 dc15 pm15 an15 cd15 ct15), sl15⟩) (c15 : PySem.W.codeIn K cd15 "_law_frac" = true) (k15 : PySem.W.keepIn K (.ref f15) = true)
    {f16 : Addr} {od16 an16 : Option Addr} {sl16 : Array (Option Value)} {oc16 kV16 dc16 pm16 cd16 ct16 : Value} (a16 : PySem.W.nsIn K mainGlobals "minus" = some (some (.ref f16))) (l16 : K.lookup f16 = some ⟨oc16, od16, .func (PySem.W.fnOf "minus" "minus" (defArgs s_minus) (defBody s_minus) (defScope s_minus) .none kV16 dc16 pm16 an16 cd16 ct16), sl16⟩) (c16 : PySem.W.codeIn K cd16 "minus" = true) (k16 : PySem.W.keepIn K (.ref f16) = true)
    {f17 : Addr} {od17 an17 : Option Addr} {sl17 : Array (Option Value)} {oc17 kV17 dc17 pm17 cd17 ct17 : Value} (a17 : PySem.W.nsIn K mainGlobals "times" = some (some (.ref f17))) (l17 : K.lookup f17 = some ⟨oc17, od17, .func (PySem.W.fnOf "times" "times" (defArgs s_times) (defBody s_times) (defScope s_times) .none kV17 dc17 pm17 an17 cd17 ct17), sl17⟩) (c17 : PySem.W.codeIn K cd17 "times" = true) (k17 : PySem.W.keepIn K (.ref f17) = true)
    {f18 : Addr} {od18 an18 : Option Addr} {sl18 : Array (Option Value)} {oc18 kV18 dc18 pm18 cd18 ct18 : Value} (a18 : PySem.W.nsIn K mainGlobals "is_beam" = some (some (.ref f18))) (l18 : K.lookup f18 = some ⟨oc18, od18, .func (PySem.W.fnOf "is_beam" "is_beam" (defArgs s_is_beam) (defBody s_is_beam) (defScope s_is_beam) .none kV18 dc18 pm18 an18 cd18 ct18), sl18⟩) (c18 : PySem.W.codeIn K cd18 "is_beam" = true) (k18 : PySem.W.keepIn K (.ref f18) = true)
    {f19 : Addr} {od19 an19 : Option Addr} {sl19 : Array (Option Value)} {oc19 kV19 dc19 pm19 cd19 ct19 : Value} (a19 : PySem.W.nsIn K mainGlobals "middle_of_loads" = some (some (.ref f19))) (l19 : K.lookup f19 = some ⟨oc19, od19, .func (PySem.W.fnOf "middle_of_loads" "middle_of_loads" (defArgs s_middle_of_loads) (defBody s_middle_of_loads) (defScope s_middle_of_loads) .none kV19 dc19 pm19 an19 cd19 ct19), sl19⟩) (c19 : PySem.W.codeIn K cd19 "middle_of_loads" = true) (k19 : PySem.W.keepIn K (.ref f19) = true)
    {f20 : Addr} {od20 an20 : Option Addr} {sl20 : Array (Option Value)} {oc20 kV20 dc20 pm20 cd20 ct20 : Value} (a20 : PySem.W.nsIn K mainGlobals "_law_add" = some (some (.ref f20))) (l20 : K.lookup f20 = some ⟨oc20, od20, .func (PySem.W.fnOf "_law_add" "_law_add" (defArgs s_law_add) (defBody s_law_add) (defScope s_law_add) .none kV20 dc20 pm20 an20 cd20 ct20), sl20⟩) (c20 : PySem.W.codeIn K cd20 "_law_add" = true) (k20 : PySem.W.keepIn K (.ref f20) = true)
    {f21 : Addr} {od21 an21 : Option Addr} {sl21 : Array (Option Value)} {oc21 kV21 dc21 pm21 cd21 ct21 : Value} (a21 : PySem.W.nsIn K mainGlobals "_law_less" = some (some (.ref f21))) (l21 : K.lookup f21 = some ⟨oc21, od21, .func (PySem.W.fnOf "_law_less" "_law_less" (defArgs s_law_less) (defBody s_law_less) (defScope s_law_less) .none kV21 dc21 pm21 an21 cd21 ct21), sl21⟩) (c21 : PySem.W.codeIn K cd21 "_law_less" = true) (k21 : PySem.W.keepIn K (.ref f21) = true)
    {f22 : Addr} {od22 an22 : Option Addr} {sl22 : Array (Option Value)} {oc22 kV22 dc22 pm22 cd22 ct22 : Value} (a22 : PySem.W.nsIn K mainGlobals "_law_mul" = some (some (.ref f22))) (l22 : K.lookup f22 = some ⟨oc22, od22, .func (PySem.W.fnOf "_law_mul" "_law_mul" (defArgs s_law_mul) (defBody s_law_mul) (defScope s_law_mul) .none kV22 dc22 pm22 an22 cd22 ct22), sl22⟩) (c22 : PySem.W.codeIn K cd22 "_law_mul" = true) (k22 : PySem.W.keepIn K (.ref f22) = true)
    {f23 : Addr} {od23 an23 : Option Addr} {sl23 : Array (Option Value)} {oc23 kV23 dc23 pm23 cd23 ct23 : Value} (a23 : PySem.W.nsIn K mainGlobals "rests" = some (some (.ref f23))) (l23 : K.lookup f23 = some ⟨oc23, od23, .func (PySem.W.fnOf "rests" "rests" (defArgs s_rests) (defBody s_rests) (defScope s_rests) .none kV23 dc23 pm23 an23 cd23 ct23), sl23⟩) (c23 : PySem.W.codeIn K cd23 "rests" = true) (k23 : PySem.W.keepIn K (.ref f23) = true)
    {f24 : Addr} {od24 an24 : Option Addr} {sl24 : Array (Option Value)} {oc24 kV24 dc24 pm24 cd24 ct24 : Value} (a24 : PySem.W.nsIn K mainGlobals "_law_total" = some (some (.ref f24))) (l24 : K.lookup f24 = some ⟨oc24, od24, .func (PySem.W.fnOf "_law_total" "_law_total" (defArgs s_law_total) (defBody s_law_total) (defScope s_law_total) .none kV24 dc24 pm24 an24 cd24 ct24), sl24⟩) (c24 : PySem.W.codeIn K cd24 "_law_total" = true) (k24 : PySem.W.keepIn K (.ref f24) = true)
    {f25 : Addr} {od25 an25 : Option Addr} {sl25 : Array (Option Value)} {oc25 kV25 dc25 pm25 cd25 ct25 : Value} (a25 : PySem.W.nsIn K mainGlobals "lies" = some (some (.ref f25))) (l25 : K.lookup f25 = some ⟨oc25, od25, .func (PySem.W.fnOf "lies" "lies" (defArgs s_lies) (defBody s_lies) (defScope s_lies) .none kV25 dc25 pm25 an25 cd25 ct25), sl25⟩) (c25 : PySem.W.codeIn K cd25 "lies" = true) (k25 : PySem.W.keepIn K (.ref f25) = true)
    {f26 : Addr} {od26 an26 : Option Addr} {sl26 : Array (Option Value)} {oc26 kV26 dc26 pm26 cd26 ct26 : Value} (a26 : PySem.W.nsIn K mainGlobals "bends_at" = some (some (.ref f26))) (l26 : K.lookup f26 = some ⟨oc26, od26, .func (PySem.W.fnOf "bends_at" "bends_at" (defArgs s_bends_at) (defBody s_bends_at) (defScope s_bends_at) .none kV26 dc26 pm26 an26 cd26 ct26), sl26⟩) (c26 : PySem.W.codeIn K cd26 "bends_at" = true) (k26 : PySem.W.keepIn K (.ref f26) = true)
    {f27 : Addr} {od27 an27 : Option Addr} {sl27 : Array (Option Value)} {oc27 kV27 dc27 pm27 cd27 ct27 : Value} (a27 : PySem.W.nsIn K mainGlobals "_law_rests" = some (some (.ref f27))) (l27 : K.lookup f27 = some ⟨oc27, od27, .func (PySem.W.fnOf "_law_rests" "_law_rests" (defArgs s_law_rests) (defBody s_law_rests) (defScope s_law_rests) .none kV27 dc27 pm27 an27 cd27 ct27), sl27⟩) (c27 : PySem.W.codeIn K cd27 "_law_rests" = true) (k27 : PySem.W.keepIn K (.ref f27) = true)
    {f28 : Addr} {od28 an28 : Option Addr} {sl28 : Array (Option Value)} {oc28 kV28 dc28 pm28 cd28 ct28 : Value} (a28 : PySem.W.nsIn K mainGlobals "worst_bend" = some (some (.ref f28))) (l28 : K.lookup f28 = some ⟨oc28, od28, .func (PySem.W.fnOf "worst_bend" "worst_bend" (defArgs s_worst_bend) (defBody s_worst_bend) (defScope s_worst_bend) .none kV28 dc28 pm28 an28 cd28 ct28), sl28⟩) (c28 : PySem.W.codeIn K cd28 "worst_bend" = true) (k28 : PySem.W.keepIn K (.ref f28) = true)
    {f29 : Addr} {od29 an29 : Option Addr} {sl29 : Array (Option Value)} {oc29 kV29 dc29 pm29 cd29 ct29 : Value} (a29 : PySem.W.nsIn K mainGlobals "most_at" = some (some (.ref f29))) (l29 : K.lookup f29 = some ⟨oc29, od29, .func (PySem.W.fnOf "most_at" "most_at" (defArgs s_most_at) (defBody s_most_at) (defScope s_most_at) .none kV29 dc29 pm29 an29 cd29 ct29), sl29⟩) (c29 : PySem.W.codeIn K cd29 "most_at" = true) (k29 : PySem.W.keepIn K (.ref f29) = true)
    {f30 : Addr} {od30 an30 : Option Addr} {sl30 : Array (Option Value)} {oc30 kV30 dc30 pm30 cd30 ct30 : Value} (a30 : PySem.W.nsIn K mainGlobals "safe_places" = some (some (.ref f30))) (l30 : K.lookup f30 = some ⟨oc30, od30, .func (PySem.W.fnOf "safe_places" "safe_places" (defArgs s_safe_places) (defBody s_safe_places) (defScope s_safe_places) .none kV30 dc30 pm30 an30 cd30 ct30), sl30⟩) (c30 : PySem.W.codeIn K cd30 "safe_places" = true) (k30 : PySem.W.keepIn K (.ref f30) = true)
    {f31 : Addr} {od31 an31 : Option Addr} {sl31 : Array (Option Value)} {oc31 kV31 dc31 pm31 cd31 ct31 : Value} (a31 : PySem.W.nsIn K mainGlobals "_law_bend" = some (some (.ref f31))) (l31 : K.lookup f31 = some ⟨oc31, od31, .func (PySem.W.fnOf "_law_bend" "_law_bend" (defArgs s_law_bend) (defBody s_law_bend) (defScope s_law_bend) .none kV31 dc31 pm31 an31 cd31 ct31), sl31⟩) (c31 : PySem.W.codeIn K cd31 "_law_bend" = true) (k31 : PySem.W.keepIn K (.ref f31) = true)
    {f32 : Addr} {od32 an32 : Option Addr} {sl32 : Array (Option Value)} {oc32 kV32 dc32 pm32 cd32 ct32 : Value} (a32 : PySem.W.nsIn K mainGlobals "best_props" = some (some (.ref f32))) (l32 : K.lookup f32 = some ⟨oc32, od32, .func (PySem.W.fnOf "best_props" "best_props" (defArgs s_best_props) (defBody s_best_props) (defScope s_best_props) .none kV32 dc32 pm32 an32 cd32 ct32), sl32⟩) (c32 : PySem.W.codeIn K cd32 "best_props" = true) (k32 : PySem.W.keepIn K (.ref f32) = true)
    {f33 : Addr} {od33 an33 : Option Addr} {sl33 : Array (Option Value)} {oc33 kV33 dc33 pm33 cd33 ct33 : Value} (a33 : PySem.W.nsIn K mainGlobals "_law_worst" = some (some (.ref f33))) (l33 : K.lookup f33 = some ⟨oc33, od33, .func (PySem.W.fnOf "_law_worst" "_law_worst" (defArgs s_law_worst) (defBody s_law_worst) (defScope s_law_worst) .none kV33 dc33 pm33 an33 cd33 ct33), sl33⟩) (c33 : PySem.W.codeIn K cd33 "_law_worst" = true) (k33 : PySem.W.keepIn K (.ref f33) = true)
    {f34 : Addr} {od34 an34 : Option Addr} {sl34 : Array (Option Value)} {oc34 kV34 dc34 pm34 cd34 ct34 : Value} (a34 : PySem.W.nsIn K mainGlobals "law" = some (some (.ref f34))) (l34 : K.lookup f34 = some ⟨oc34, od34, .func (PySem.W.fnOf "law" "law" (defArgs s_law) (defBody s_law) (defScope s_law) .none kV34 dc34 pm34 an34 cd34 ct34), sl34⟩) (c34 : PySem.W.codeIn K cd34 "law" = true) (k34 : PySem.W.keepIn K (.ref f34) = true)
    (z0 : PySem.W.nsIn K mainGlobals "len" = some none)
    (z1 : PySem.W.nsIn K mainGlobals "abs" = some none)
    (z2 : PySem.W.nsIn K mainGlobals "sum" = some none)
    (z3 : PySem.W.nsIn K mainGlobals "any" = some none)
    (z4 : PySem.W.nsIn K mainGlobals "all" = some none)
    (z5 : PySem.W.nsIn K mainGlobals "sorted" = some none)
    (z6 : PySem.W.nsIn K mainGlobals "min" = some none)
    (z7 : PySem.W.nsIn K mainGlobals "max" = some none)
    (z8 : PySem.W.nsIn K mainGlobals "tuple" = some none)
    (z9 : PySem.W.nsIn K mainGlobals "list" = some none)
    (z10 : PySem.W.nsIn K mainGlobals "int" = some none)
    (z11 : PySem.W.nsIn K mainGlobals "str" = some none)
    (z12 : PySem.W.nsIn K mainGlobals "dict" = some none)
    (z13 : PySem.W.nsIn K mainGlobals "set" = some none)
    (z14 : PySem.W.nsIn K mainGlobals "range" = some none)
    (z15 : PySem.W.nsIn K mainGlobals "zip" = some none)
    (z16 : PySem.W.nsIn K mainGlobals "isinstance" = some none)
    (z17 : PySem.W.nsIn K mainGlobals "bool" = some none) :
    ∃ fd : FuncData, (∀ (s : Shared) (v : Value), BindsTo s fd ⟨[v], []⟩ [("script", v)]) ∧ ∀ base : Heap, K.In base → base.Ns mainGlobals mg → FnOk l.prog w K mg base CX0 8 fa fd ["script"] (spLaw K) := by
  have e := hfa.symm.trans (PySem.W.mg_of X G a34)
  cases e
  have A : All K mg := ⟨by
    intro x hx
    simp only [bltN, List.mem_cons, List.not_mem_nil, or_false] at hx
    rcases hx with rfl | rfl | rfl | rfl | rfl | rfl | rfl | rfl | rfl | rfl | rfl | rfl | rfl | rfl | rfl | rfl | rfl | rfl
    · exact PySem.W.mg_none_of X G z0
    · exact PySem.W.mg_none_of X G z1
    · exact PySem.W.mg_none_of X G z2
    · exact PySem.W.mg_none_of X G z3
    · exact PySem.W.mg_none_of X G z4
    · exact PySem.W.mg_none_of X G z5
    · exact PySem.W.mg_none_of X G z6
    · exact PySem.W.mg_none_of X G z7
    · exact PySem.W.mg_none_of X G z8
    · exact PySem.W.mg_none_of X G z9
    · exact PySem.W.mg_none_of X G z10
    · exact PySem.W.mg_none_of X G z11
    · exact PySem.W.mg_none_of X G z12
    · exact PySem.W.mg_none_of X G z13
    · exact PySem.W.mg_none_of X G z14
    · exact PySem.W.mg_none_of X G z15
    · exact PySem.W.mg_none_of X G z16
    · exact PySem.W.mg_none_of X G z17, ⟨f0, _, PySem.W.mg_of X G a0, k0, fun_mk (st := s_is_number) l0 c0 k0⟩, ⟨f1, _, PySem.W.mg_of X G a1, k1, fun_mk (st := s_is_tuple_of) l1 c1 k1⟩, ⟨f2, _, PySem.W.mg_of X G a2, k2, fun_mk (st := s_common) l2 c2 k2⟩, ⟨f3, _, PySem.W.mg_of X G a3, k3, fun_mk (st := s_is_less) l3 c3 k3⟩, ⟨f4, _, PySem.W.mg_of X G a4, k4, fun_mk (st := s_joined_loads) l4 c4 k4⟩, ⟨f5, _, PySem.W.mg_of X G a5, k5, fun_mk (st := s_turned_beam) l5 c5 k5⟩, ⟨f6, _, PySem.W.mg_of X G a6, k6, fun_mk (st := s_law_draws) l6 c6 k6⟩, ⟨f7, _, PySem.W.mg_of X G a7, k7, fun_mk (st := s_law_next) l7 c7 k7⟩, ⟨f8, _, PySem.W.mg_of X G a8, k8, fun_mk (st := s_law_is_number) l8 c8 k8⟩, ⟨f9, _, PySem.W.mg_of X G a9, k9, fun_mk (st := s_law_is_bit) l9 c9 k9⟩, ⟨f10, _, PySem.W.mg_of X G a10, k10, fun_mk (st := s_law_common) l10 c10 k10⟩, ⟨f11, _, PySem.W.mg_of X G a11, k11, fun_mk (st := s_law_below) l11 c11 k11⟩, ⟨f12, _, PySem.W.mg_of X G a12, k12, fun_mk (st := s_law_lies) l12 c12 k12⟩, ⟨f13, _, PySem.W.mg_of X G a13, k13, fun_mk (st := s_is_from) l13 c13 k13⟩, ⟨f14, _, PySem.W.mg_of X G a14, k14, fun_mk (st := s_fraction) l14 c14 k14⟩, ⟨f15, _, PySem.W.mg_of X G a15, k15, fun_mk (st := s_law_frac) l15 c15 k15⟩, ⟨f16, _, PySem.W.mg_of X G a16, k16, fun_mk (st := s_minus) l16 c16 k16⟩, ⟨f17, _, PySem.W.mg_of X G a17, k17, fun_mk (st := s_times) l17 c17 k17⟩, ⟨f18, _, PySem.W.mg_of X G a18, k18, fun_mk (st := s_is_beam) l18 c18 k18⟩, ⟨f19, _, PySem.W.mg_of X G a19, k19, fun_mk (st := s_middle_of_loads) l19 c19 k19⟩, ⟨f20, _, PySem.W.mg_of X G a20, k20, fun_mk (st := s_law_add) l20 c20 k20⟩, ⟨f21, _, PySem.W.mg_of X G a21, k21, fun_mk (st := s_law_less) l21 c21 k21⟩, ⟨f22, _, PySem.W.mg_of X G a22, k22, fun_mk (st := s_law_mul) l22 c22 k22⟩, ⟨f23, _, PySem.W.mg_of X G a23, k23, fun_mk (st := s_rests) l23 c23 k23⟩, ⟨f24, _, PySem.W.mg_of X G a24, k24, fun_mk (st := s_law_total) l24 c24 k24⟩, ⟨f25, _, PySem.W.mg_of X G a25, k25, fun_mk (st := s_lies) l25 c25 k25⟩, ⟨f26, _, PySem.W.mg_of X G a26, k26, fun_mk (st := s_bends_at) l26 c26 k26⟩, ⟨f27, _, PySem.W.mg_of X G a27, k27, fun_mk (st := s_law_rests) l27 c27 k27⟩, ⟨f28, _, PySem.W.mg_of X G a28, k28, fun_mk (st := s_worst_bend) l28 c28 k28⟩, ⟨f29, _, PySem.W.mg_of X G a29, k29, fun_mk (st := s_most_at) l29 c29 k29⟩, ⟨f30, _, PySem.W.mg_of X G a30, k30, fun_mk (st := s_safe_places) l30 c30 k30⟩, ⟨f31, _, PySem.W.mg_of X G a31, k31, fun_mk (st := s_law_bend) l31 c31 k31⟩, ⟨f32, _, PySem.W.mg_of X G a32, k32, fun_mk (st := s_best_props) l32 c32 k32⟩, ⟨f33, _, PySem.W.mg_of X G a33, k33, fun_mk (st := s_law_worst) l33 c33 k33⟩, ⟨fa, _, PySem.W.mg_of X G a34, k34, fun_mk (st := s_law) l34 c34 k34⟩⟩
  exact ⟨PySem.W.fnOf "law" "law" (defArgs s_law) (defBody s_law) (defScope s_law) .none kV34 dc34 pm34 an34 cd34 ct34, fun s v => .of_eq rfl, fun base _ _ => k_law A (fun_mk (st := s_law) l34 c34 k34)⟩
end PW
open PySem PySem.W PyProof.Rows
set_option maxHeartbeats 0 in
theorem PySem.Challenge.cw_bondslaid_k36_whole_beams_on_props_holds : PySem.Challenge.rw_bondslaid_k36_whole_beams_on_props.Holds := by
  w_on; o_law; k_head; (case hw => w_witness2)
  k_fill
  refine L2.walk_of (l := PySem.Challenge.rw_bondslaid_k36_whole_beams_on_props) (n := 63) (k := 8) (x := "script") (CX := fun _ => L2.CX0) (sp := fun w => PV.spLaw _) rfl (by decide) rfl ⟨rfl, by decide, by decide⟩ (fun w h Y => PySem.W.kIn_of Y) ?F (fun _ _ a ns hl _ hS => ⟨a, ns, rfl, hS, hl, fun _ => rfl⟩) (fun _ _ _ _ _ h => h)
  case F =>
    intro w mg fa h KX G hmg
    refine' PW.all_mk KX G hmg ?a0 ?l0 ?c0 ?k0 ?a1 ?l1 ?c1 ?k1 ?a2 ?l2 ?c2 ?k2 ?a3 ?l3 ?c3 ?k3 ?a4 ?l4 ?c4 ?k4 ?a5 ?l5 ?c5 ?k5 ?a6 ?l6 ?c6 ?k6 ?a7 ?l7 ?c7 ?k7 ?a8 ?l8 ?c8 ?k8 ?a9 ?l9 ?c9 ?k9 ?a10 ?l10 ?c10 ?k10 ?a11 ?l11 ?c11 ?k11 ?a12 ?l12 ?c12 ?k12 ?a13 ?l13 ?c13 ?k13 ?a14 ?l14 ?c14 ?k14 ?a15 ?l15 ?c15 ?k15 ?a16 ?l16 ?c16 ?k16 ?a17 ?l17 ?c17 ?k17 ?a18 ?l18 ?c18 ?k18 ?a19 ?l19 ?c19 ?k19 ?a20 ?l20 ?c20 ?k20 ?a21 ?l21 ?c21 ?k21 ?a22 ?l22 ?c22 ?k22 ?a23 ?l23 ?c23 ?k23 ?a24 ?l24 ?c24 ?k24 ?a25 ?l25 ?c25 ?k25 ?a26 ?l26 ?c26 ?k26 ?a27 ?l27 ?c27 ?k27 ?a28 ?l28 ?c28 ?k28 ?a29 ?l29 ?c29 ?k29 ?a30 ?l30 ?c30 ?k30 ?a31 ?l31 ?c31 ?k31 ?a32 ?l32 ?c32 ?k32 ?a33 ?l33 ?c33 ?k33 ?a34 ?l34 ?c34 ?k34 ?z0 ?z1 ?z2 ?z3 ?z4 ?z5 ?z6 ?z7 ?z8 ?z9 ?z10 ?z11 ?z12 ?z13 ?z14 ?z15 ?z16 ?z17
    (case a0 => k_is); (case l0 => k_is); (case c0 => k_is); (case k0 => k_is); (case a1 => k_is); (case l1 => k_is); (case c1 => k_is); (case k1 => k_is); (case a2 => k_is); (case l2 => k_is); (case c2 => k_is); (case k2 => k_is); (case a3 => k_is); (case l3 => k_is); (case c3 => k_is); (case k3 => k_is); (case a4 => k_is); (case l4 => k_is); (case c4 => k_is); (case k4 => k_is); (case a5 => k_is); (case l5 => k_is); (case c5 => k_is); (case k5 => k_is); (case a6 => k_is); (case l6 => k_is); (case c6 => k_is); (case k6 => k_is); (case a7 => k_is); (case l7 => k_is); (case c7 => k_is); (case k7 => k_is); (case a8 => k_is); (case l8 => k_is); (case c8 => k_is); (case k8 => k_is); (case a9 => k_is); (case l9 => k_is); (case c9 => k_is); (case k9 => k_is); (case a10 => k_is); (case l10 => k_is); (case c10 => k_is); (case k10 => k_is); (case a11 => k_is); (case l11 => k_is); (case c11 => k_is); (case k11 => k_is); (case a12 => k_is); (case l12 => k_is); (case c12 => k_is); (case k12 => k_is); (case a13 => k_is); (case l13 => k_is); (case c13 => k_is); (case k13 => k_is); (case a14 => k_is); (case l14 => k_is); (case c14 => k_is); (case k14 => k_is); (case a15 => k_is); (case l15 => k_is); (case c15 => k_is); (case k15 => k_is); (case a16 => k_is); (case l16 => k_is); (case c16 => k_is); (case k16 => k_is); (case a17 => k_is); (case l17 => k_is); (case c17 => k_is); (case k17 => k_is); (case a18 => k_is); (case l18 => k_is); (case c18 => k_is); (case k18 => k_is); (case a19 => k_is); (case l19 => k_is); (case c19 => k_is); (case k19 => k_is); (case a20 => k_is); (case l20 => k_is); (case c20 => k_is); (case k20 => k_is); (case a21 => k_is); (case l21 => k_is); (case c21 => k_is); (case k21 => k_is); (case a22 => k_is); (case l22 => k_is); (case c22 => k_is); (case k22 => k_is); (case a23 => k_is); (case l23 => k_is); (case c23 => k_is); (case k23 => k_is); (case a24 => k_is); (case l24 => k_is); (case c24 => k_is); (case k24 => k_is); (case a25 => k_is); (case l25 => k_is); (case c25 => k_is); (case k25 => k_is); (case a26 => k_is); (case l26 => k_is); (case c26 => k_is); (case k26 => k_is); (case a27 => k_is); (case l27 => k_is); (case c27 => k_is); (case k27 => k_is); (case a28 => k_is); (case l28 => k_is); (case c28 => k_is); (case k28 => k_is); (case a29 => k_is); (case l29 => k_is); (case c29 => k_is); (case k29 => k_is); (case a30 => k_is); (case l30 => k_is); (case c30 => k_is); (case k30 => k_is); (case a31 => k_is); (case l31 => k_is); (case c31 => k_is); (case k31 => k_is); (case a32 => k_is); (case l32 => k_is); (case c32 => k_is); (case k32 => k_is); (case a33 => k_is); (case l33 => k_is); (case c33 => k_is); (case k33 => k_is); (case a34 => k_is); (case l34 => k_is); (case c34 => k_is); (case k34 => k_is); (case z0 => k_is); (case z1 => k_is); (case z2 => k_is); (case z3 => k_is); (case z4 => k_is); (case z5 => k_is); (case z6 => k_is); (case z7 => k_is); (case z8 => k_is); (case z9 => k_is); (case z10 => k_is); (case z11 => k_is); (case z12 => k_is); (case z13 => k_is); (case z14 => k_is); (case z15 => k_is); (case z16 => k_is); (case z17 => k_is)

